import PyProof.Rows.All
import HandS.ForExc
import KE.GoesEnum
import HandS.Iter
import HandS.Walk
import HandS.TupAny
import HandS.TupMul
import HandS.Style
import HandS.Text
import HandS.Wide
import HandS.IsInst
import HandS.Flow
import HandS.TryMany
import HandS.ExcOwn
import HandS.Comp
import KE.DataMinMax
import KE.KTupSum
import HandS.EndBits
import Wide.All
import OpenK.AllK
import Wide.FinOn
import PySem.Challenge.RW_lossrules_k06_whole_beliefs
set_option Elab.async false
set_option linter.all false
set_option maxRecDepth 100000
set_option maxHeartbeats 4000000
/-! Mini: data, store, syntax, evaluator. -/
namespace Mn
open PySem

/-- plain data; ref n: the mutable cell n of the store -/
inductive D where
  | non | bl (b : Bool) | int (i : Int) | str (s : Str)
  | tup (xs : List D) | lst (xs : List D) | ref (n : Nat)
  /-- a list that is only read (the script) -/
  | scr (xs : List D)

mutual
def D.same : D → D → Bool
  | .non, .non => true
  | .bl a, .bl b => a == b
  | .int a, .int b => a == b
  | .str a, .str b => a == b
  | .tup a, .tup b => D.sames a b
  | .lst a, .lst b => D.sames a b
  | .ref a, .ref b => a == b
  | .scr a, .scr b => D.sames a b
  | _, _ => false
def D.sames : List D → List D → Bool
  | [], [] => true
  | a :: r, b :: s => D.same a b && D.sames r s
  | _, _ => false
end
mutual
theorem D.same_eq : ∀ {a b : D}, D.same a b = true → a = b
  | .non, b, h => by cases b <;> simp [D.same] at h ⊢
  | .bl x, b, h => by cases b <;> simp [D.same] at h ⊢; exact h
  | .int x, b, h => by cases b <;> simp [D.same] at h ⊢; exact h
  | .str x, b, h => by cases b <;> simp [D.same] at h ⊢; exact h
  | .tup x, b, h => by
    cases b <;> simp [D.same] at h ⊢
    exact D.sames_eq h
  | .lst x, b, h => by
    cases b <;> simp [D.same] at h ⊢
    exact D.sames_eq h
  | .ref x, b, h => by cases b <;> simp [D.same] at h ⊢; exact h
  | .scr x, b, h => by
    cases b <;> simp [D.same] at h ⊢
    exact D.sames_eq h
theorem D.sames_eq : ∀ {a b : List D}, D.sames a b = true → a = b
  | [], [], _ => rfl
  | [], _ :: _, h => by simp [D.sames] at h
  | _ :: _, [], h => by simp [D.sames] at h
  | a :: r, b :: s, h => by
    simp [D.sames] at h
    rw [D.same_eq h.1, D.sames_eq h.2]
end
mutual
theorem D.same_refl : ∀ a : D, D.same a a = true
  | .non => by simp [D.same]
  | .bl x => by simp [D.same]
  | .int x => by simp [D.same]
  | .str x => by simp [D.same]
  | .tup x => by simp [D.same]; exact D.sames_refl x
  | .lst x => by simp [D.same]; exact D.sames_refl x
  | .ref x => by simp [D.same]
  | .scr x => by simp [D.same]; exact D.sames_refl x
theorem D.sames_refl : ∀ a : List D, D.sames a a = true
  | [] => by simp [D.sames]
  | a :: r => by simp [D.sames]; exact ⟨D.same_refl a, D.sames_refl r⟩
end

/- no reference within -/
mutual
def D.pure : D → Bool
  | .ref _ => false
  | .tup xs => D.pures xs
  | .lst xs => D.pures xs
  | .scr xs => D.pures xs
  | _ => true
def D.pures : List D → Bool
  | [] => true
  | a :: r => D.pure a && D.pures r
end
mutual
def D.py : D → PyData
  | .non => .none
  | .bl b => .bool b
  | .int i => .int i
  | .str s => .str s
  | .tup xs => .tuple (D.pys xs)
  | .lst xs => .list (D.pys xs)
  | .ref _ => .none
  | .scr xs => .list (D.pys xs)
def D.pys : List D → List PyData
  | [] => []
  | a :: r => D.py a :: D.pys r
end

inductive Cell where
  | lst (xs : List D)
  | frz (xs : List D)
  | ins (c : Nat) (fs : List (Str × D))
abbrev Store := List Cell

inductive Res (α : Type) where
  | ok (a : α) (S : Store)
  | exc (c : Nat) (S : Store)
  | stuck
def Res.bind {α β : Type} (r : Res α) (k : α → Store → Res β) : Res β := match r with
  | .ok a S => k a S
  | .exc c S => .exc c S
  | .stuck => .stuck
/-- an exception is not carried here -/
def Res.only {α β : Type} (r : Res α) (k : α → Store → Res β) : Res β := match r with
  | .ok a S => k a S
  | _ => .stuck

abbrev FnSem := Nat → List D → Store → Res D
abbrev Env := List (Option D)

inductive Bop where | add | sub | mul | fdiv | mod
inductive Cop where | eq | ne | lt | le | gt | ge | is_ | isnot | in_ | notin
inductive Bi where | len | abs | max | min | sum | all | any | int | str | tuple | list
inductive Ty where | int | bool | str | tuple | list
inductive Bm where | append | pop | join | split | startswith | replace
inductive Pat where
  | one (i : Nat)
  | tup (is : List Nat)

mutual
inductive ME where
  | var (i : Nat)
  | frz (i : Nat)
  | cst (d : D)
  | tup (es : MEs)
  | lst (m : Bool) (es : MEs)
  | bin (m : Bool) (o : Bop) (a b : ME)
  | neg (a : ME)
  | not_ (a : ME)
  | cmp (o : Cop) (a b : ME)
  | chain (o p : Cop) (a b c : ME)
  | and_ (es : MEs)
  | or_ (es : MEs)
  | ite (c a b : ME)
  | ix (a i : ME)
  | sl (m : Bool) (a : ME) (lo hi : MO)
  | rev (m : Bool) (a : ME)
  | call (x : Str) (g : FnSem) (es : MEs)
  | bi (m : Bool) (b : Bi) (es : MEs)
  | isi (a : ME) (t : Ty)
  | bm (m : Bool) (b : Bm) (a : ME) (es : MEs)
  | lc (m : Bool) (own : List Nat) (elt : ME) (tg : Pat) (it : MI) (c : MO)
  | lc2 (m : Bool) (own own1 : List Nat) (elt : ME) (tg : Pat) (it : MI) (tg1 : Pat) (it1 : MI)
  | fld (a : ME) (C : Nat) (f : Str)
  | mk (x : Str) (C : Nat) (g : FnSem) (es : MEs)
  | meth (a : ME) (C : Nat) (f : Str) (g : FnSem) (es : MEs)
inductive MEs where
  | nil
  | cons (e : ME) (es : MEs)
inductive MO where
  | none
  | some (e : ME)
inductive MI where
  | exp (e : ME)
  | rng1 (a : ME)
  | rng2 (a b : ME)
  | enum (e : ME)
  | zip (a b : ME)
  | zip3 (a b c : ME)
end
inductive MT where
  | var (i : Nat)
  | sub (a i : ME)
  | attr (a : ME) (C : Nat) (f : Str)
mutual
inductive MS where
  | asg (t : MT) (e : ME)
  | asgT (ts : List MT) (e : ME)
  /-- names stored side by side -/
  | par (is : List Nat) (es : MEs)
  | expr (e : ME)
  | ret (e : ME)
  | ifs (c : ME) (a b : MSs)
  | for_ (p : Pat) (it : MI) (body : MSs)
  | whil (c : ME) (body : MSs)
  | rais (x : Str) (c : Nat)
  | tryc (body : MSs) (hs : List (Str × Nat × Str))
inductive MSs where
  | nil
  | cons (s : MS) (r : MSs)
end

/-! ### primitives -/
def line : Nat := 16777216
/-- a new list: a cell or a value -/
def newL (m : Bool) (ds : List D) (S : Store) : Res D :=
  if ds.length ≤ line then (if m then .ok (.ref S.length) (S ++ [.lst ds]) else .ok (.lst ds) S) else .stuck
def newT (ds : List D) (S : Store) : Res D := if ds.length ≤ line then .ok (.tup ds) S else .stuck
/-- a list's items; a sequence's (true: a list) -/
def lstOf (S : Store) : D → Option (List D)
  | .lst ds => some ds
  | .ref n => match S[n]? with
    | some (.lst ds) => some ds
    | some (.frz ds) => some ds
    | _ => none
  | _ => none
def seqOf (S : Store) : D → Option (Bool × List D)
  | .tup ds => some (false, ds)
  | .lst ds => some (true, ds)
  | .scr ds => some (true, ds)
  | .ref n => match S[n]? with
    | some (.lst ds) => some (true, ds)
    | some (.frz ds) => some (true, ds)
    | _ => none
  | _ => none
/-- a place in a list: Python's index -/
def ixD (n : Nat) (i : Int) : Option Nat := if 0 ≤ i then (if i < n then some i.toNat else none) else if -(n : Int) ≤ i then some (i + n).toNat else none
def atD (xs : List D) (i : Int) : Option D := (ixD xs.length i).bind fun j => xs[j]?
def clampD (n d : Nat) : Option Int → Nat
  | none => d
  | some v => (if v < 0 then Max.max (v + (n : Int)) 0 else Min.min v (n : Int)).toNat
def cutD {α : Type} (xs : List α) (lo hi : Option Int) : List α := (xs.drop (clampD xs.length 0 lo)).take (clampD xs.length xs.length hi - clampD xs.length 0 lo)
def ofO {α : Type} (o : Option α) (S : Store) : Res α := match o with
  | some a => .ok a S
  | none => .stuck
def truD (S : Store) : D → Option Bool
  | .non => some false
  | .bl b => some b
  | .int i => some (i != 0)
  | .str s => if s.length ≤ line then some (s.length != 0) else none
  | d => (seqOf S d).map fun p => !p.2.isEmpty
def flatD : D → Bool
  | .non => true
  | .bl _ => true
  | .int _ => true
  | .str _ => true
  | _ => false
def mapO {α β : Type} (f : α → Option β) : List α → Option (List β)
  | [] => some []
  | a :: r => match f a, mapO f r with
    | some b, some t => some (b :: t)
    | _, _ => none
/-- data as compared: the cells are read, five levels deep -/
def resD (S : Store) : Nat → D → Option D
  | 0, _ => none
  | n + 1, d => if D.pure d then some d else match d with
    | .ref k => match S[k]? with
      | some (.lst ds) => (mapO (resD S n) ds).map .lst
      | some (.frz ds) => (mapO (resD S n) ds).map .lst
      | _ => none
    | .lst ds => (mapO (resD S n) ds).map .lst
    | .tup ds => (mapO (resD S n) ds).map .tup
    | _ => none
def pyS (S : Store) (d : D) : Option PyData := (resD S 5 d).map D.py
def mulOk (i j : Int) : Bool := decide (i.natAbs.log2 + j.natAbs.log2 < 1000000)
def divOk (j : Int) : Bool := decide (0 < j) && decide (j.natAbs.log2 < 9000)
def binD (m : Bool) (o : Bop) (x y : D) (S : Store) : Res D := match o, x, y with
  | .add, .int i, .int j => .ok (.int (i + j)) S
  | .sub, .int i, .int j => .ok (.int (i - j)) S
  | .mul, .int i, .int j => if mulOk i j then .ok (.int (i * j)) S else .stuck
  | .fdiv, .int i, .int j => if divOk j then .ok (.int (i / j)) S else .stuck
  | .mod, .int i, .int j => if 0 < j then .ok (.int (i % j)) S else .stuck
  | .add, .bl i, .int j => .ok (.int ((if i = true then 1 else 0) + j)) S
  | .sub, .bl i, .int j => .ok (.int ((if i = true then 1 else 0) - j)) S
  | .add, .tup a, .tup b => newT (a ++ b) S
  | .add, .str a, .str b => if a.length + b.length ≤ line then .ok (.str (a ++ b)) S else .stuck
  | .mul, .tup a, .int j => if (0 ≤ j ∧ j ≤ 1000 ∧ a.length ≤ 1000) ∧ a.isEmpty = false then .ok (.tup (List.replicate j.toNat a).flatten) S else .stuck
  | .add, a, b => match lstOf S a, lstOf S b with
    | some xs, some ys => newL m (xs ++ ys) S
    | _, _ => .stuck
  | .mul, a, .int j => match lstOf S a with
    | some xs => if 0 ≤ j ∧ j ≤ 1000 ∧ xs.length ≤ 1000 then newL m (List.replicate j.toNat xs).flatten S else .stuck
    | none => .stuck
  | _, _, _ => .stuck
def eqFlat : D → D → Bool
  | a, b => PyData.eqv (D.py a) (D.py b)
def isNonD : D → Bool
  | .non => true
  | _ => false
def cmpD (o : Cop) (x y : D) (S : Store) : Res D := match o with
  | .eq => match pyS S x, pyS S y with
    | some a, some b => if SeqAt.shaped a && SeqAt.shaped b then .ok (.bl (PyData.eqv a b)) S else .stuck
    | _, _ => .stuck
  | .ne => match pyS S x, pyS S y with
    | some a, some b => if SeqAt.shaped a && SeqAt.shaped b then .ok (.bl (!PyData.eqv a b)) S else .stuck
    | _, _ => .stuck
  | .lt => match x, y with
    | .int i, .int j => .ok (.bl (decide (i < j))) S
    | _, _ => .stuck
  | .le => match x, y with
    | .int i, .int j => .ok (.bl (decide (i ≤ j))) S
    | .str a, .str b => .ok (.bl (!decide (b.cps.toList < a.cps.toList))) S
    | _, _ => .stuck
  | .gt => match x, y with
    | .int i, .int j => .ok (.bl (decide (j < i))) S
    | _, _ => .stuck
  | .ge => match x, y with
    | .int i, .int j => .ok (.bl (decide (j ≤ i))) S
    | _, _ => .stuck
  | .is_ => match y with
    | .non => .ok (.bl (isNonD x)) S
    | _ => .stuck
  | .isnot => match y with
    | .non => .ok (.bl (!isNonD x)) S
    | _ => .stuck
  | .in_ => match seqOf S y with
    | some (_, ds) => if flatD x && ds.all flatD then .ok (.bl (ds.any fun d => eqFlat d x)) S else .stuck
    | none => .stuck
  | .notin => match seqOf S y with
    | some (_, ds) => if flatD x && ds.all flatD then .ok (.bl (!ds.any fun d => eqFlat d x)) S else .stuck
    | none => .stuck
def ixS (x i : D) (S : Store) : Res D := match i with
  | .int k => match x with
    | .str s => if s.length ≤ line then match (ixD s.cps.toList.length k).bind fun j => s.cps.toList[j]? with
        | some c => .ok (.str ⟨#[c]⟩) S
        | none => .stuck
      else .stuck
    | x => match seqOf S x with
      | some (_, ds) => ofO (atD ds k) S
      | none => .stuck
  | _ => .stuck
def intO : Option D → Option (Option Int)
  | none => some none
  | some (.int i) => some (some i)
  | _ => none
def slD (m : Bool) (x : D) (lo hi : Option D) (S : Store) : Res D := match intO lo, intO hi with
  | some l, some h => match x with
    | .str s => if s.length ≤ line then .ok (.str ⟨(cutD s.cps.toList l h).toArray⟩) S else .stuck
    | .tup ds => .ok (.tup (cutD ds l h)) S
    | x => match lstOf S x with
      | some ds => newL m (cutD ds l h) S
      | none => .stuck
  | _, _ => .stuck
def revD (m : Bool) (x : D) (S : Store) : Res D := match x with
  | .tup ds => .ok (.tup ds.reverse) S
  | x => match lstOf S x with
    | some ds => newL m ds.reverse S
    | none => .stuck
def intsOf : List D → Option (List Int)
  | [] => some []
  | .int i :: r => (intsOf r).map fun l => i :: l
  | _ :: _ => none
def blsOf : List D → Option (List Bool)
  | [] => some []
  | .bl i :: r => (blsOf r).map fun l => i :: l
  | _ :: _ => none
def strsOf : List D → Option (List Str)
  | [] => some []
  | .str i :: r => (strsOf r).map fun l => i :: l
  | _ :: _ => none
def maxI : Int → List Int → Int
  | a, [] => a
  | a, b :: r => maxI (if b > a then b else a) r
def minI : Int → List Int → Int
  | a, [] => a
  | a, b :: r => minI (if b < a then b else a) r
def biD (m : Bool) (b : Bi) (vs : List D) (S : Store) : Res D := match b, vs with
  | .len, [.str s] => if s.length ≤ line then .ok (.int s.length) S else .stuck
  | .len, [x] => match seqOf S x with
    | some (_, ds) => .ok (.int ds.length) S
    | none => .stuck
  | .abs, [.int i] => .ok (.int (if i < 0 then -i else i)) S
  | .max, [.int i, .int j] => .ok (.int (if j > i then j else i)) S
  | .min, [.int i, .int j] => .ok (.int (if j < i then j else i)) S
  | .max, [x] => match (seqOf S x).bind fun p => intsOf p.2 with
    | some (i :: r) => .ok (.int (maxI i r)) S
    | _ => .stuck
  | .min, [x] => match (seqOf S x).bind fun p => intsOf p.2 with
    | some (i :: r) => .ok (.int (minI i r)) S
    | _ => .stuck
  | .sum, [x] => match (seqOf S x).bind fun p => intsOf p.2 with
    | some ns => .ok (.int ns.sum) S
    | _ => .stuck
  | .all, [x] => match (lstOf S x).bind blsOf with
    | some bs => .ok (.bl (bs.all id)) S
    | none => .stuck
  | .any, [x] => match (lstOf S x).bind blsOf with
    | some bs => .ok (.bl (bs.any id)) S
    | none => .stuck
  | .int, [.int i] => .ok (.int i) S
  | .int, [.bl k] => .ok (.int (if k then 1 else 0)) S
  | .int, [.str s] => match PySem.intText? s with
    | some n => if s.length ≤ 640 then .ok (.int n) S else .stuck
    | none => .stuck
  | .str, [.int i] => if i.natAbs.log2 < 1920 then .ok (.str (toString i)) S else .stuck
  | .str, [.bl i] => .ok (.str (if i = true then "True" else "False")) S
  | .tuple, [.tup ds] => .ok (.tup ds) S
  | .tuple, [x] => match lstOf S x with
    | some ds => .ok (.tup ds) S
    | none => .stuck
  | .list, [x] => match seqOf S x with
    | some (_, ds) => newL m ds S
    | none => .stuck
  | _, _ => .stuck
def isLst : Ty → Bool
  | .list => true
  | _ => false
def isD (S : Store) (d : D) (t : Ty) : Option Bool := match t, d with
  | .int, .int _ => some true
  | .int, .bl _ => some true
  | .bool, .bl _ => some true
  | .str, .str _ => some true
  | .tuple, .tup _ => some true
  | .list, .lst _ => some true
  | _, .scr _ => none
  | _, .ref n => match S[n]? with
    | some (.lst _) => some (isLst t)
    | some (.frz _) => some (isLst t)
    | _ => none
  | _, _ => some false
/-- a cell is written: an outer one takes only data without references -/
def setC (b n : Nat) (c : Cell) (p : Bool) (S : Store) : Option Store := if (n < b ∧ p = false) ∨ S.length ≤ n then none else some (S.set n c)
def bmD (b : Nat) (m : Bool) (o : Bm) (x : D) (vs : List D) (S : Store) : Res D := match o, x, vs with
  | .append, .ref n, [d] => match S[n]? with
    | some (.lst ds) => if ds.length < line then (match setC b n (.lst (ds ++ [d])) (D.pure d) S with
        | some S' => .ok .non S'
        | none => .stuck) else .stuck
    | _ => .stuck
  | .pop, .ref n, [] => match S[n]? with
    | some (.lst ds) => match ds[ds.length - 1]? with
      | some d => (match setC b n (.lst ds.dropLast) true S with
        | some S' => .ok d S'
        | none => .stuck)
      | none => .stuck
    | _ => .stuck
  | _, _, _ => .stuck
def bindP (p : Pat) (d : D) (ρ : Env) : Option Env := match p, d with
  | .one i, d => if i < ρ.length then some (ρ.set i (some d)) else none
  | .tup is, .tup ds => if is.length = ds.length ∧ is.all (fun i => decide (i < ρ.length)) then some ((is.zip ds).foldl (fun ρ q => ρ.set q.1 (some q.2)) ρ) else none
  | _, _ => none
def wipeD (ρ : Env) : List Nat → Env
  | [] => ρ
  | v :: vs => (wipeD ρ vs).set v none
abbrev Src := List (Nat × List D)
def Src.stays (src : Src) (S : Store) : Bool := src.all fun p => match S[p.1]? with
  | some (.lst ds) => D.sames ds p.2
  | some (.frz ds) => D.sames ds p.2
  | _ => false
def srcOf (d : D) (ds : List D) : Src := match d with
  | .ref n => [(n, ds)]
  | _ => []
def enumD (k : Nat) : List D → List D
  | [] => []
  | d :: r => .tup [.int k, d] :: enumD (k + 1) r
def zipD : List D → List D → List D
  | a :: r, b :: s => .tup [a, b] :: zipD r s
  | _, _ => []
def zip3D : List D → List D → List D → List D
  | a :: r, b :: s, c :: t => .tup [a, b, c] :: zip3D r s t
  | _, _, _ => []
def rngD (lo : Int) (n : Nat) : List D := (List.range n).map fun i => .int (lo + (i : Nat))
def lim : Int := 2 ^ 62
/-- a comprehension's turns -/
def lcL (src : Src) (f : D → Store → Res (Option D)) : List D → List D → Store → Res (List D)
  | [], acc, S => if src.stays S then .ok acc S else .stuck
  | d :: ds, acc, S => if src.stays S then ((f d S).only fun o S' => match o with
      | some x => if acc.length < line then lcL src f ds (acc ++ [x]) S' else .stuck
      | none => lcL src f ds acc S') else .stuck
/-- a test's value -/
def tru1 (d : D) (S : Store) : Res Bool := match truD S d with
  | some k => .ok k S
  | none => .stuck
/-- no test: true -/
def truO (d : Option D) (S : Store) : Res Bool := match d with
  | some d => tru1 d S
  | none => .ok true S

/-! ### expressions -/
mutual
def evE (b : Nat) : ME → Env → Store → Res D
  | .var i, ρ, S => match ρ[i]? with
    | some (some d) => .ok d S
    | _ => .stuck
  | .frz i, ρ, S => match ρ[i]? with
    | some (some (.ref n)) => match S[n]? with
      | some (.lst ds) => .ok (.lst ds) (S.set n (.frz ds))
      | some (.frz ds) => .ok (.lst ds) S
      | _ => .stuck
    | _ => .stuck
  | .cst d, _, S => .ok d S
  | .tup es, ρ, S => (evEs b es ρ S).bind newT
  | .lst m es, ρ, S => (evEs b es ρ S).bind (newL m)
  | .bin m o x y, ρ, S => (evE b x ρ S).bind fun d S1 => (evE b y ρ S1).bind fun e S2 => binD m o d e S2
  | .neg x, ρ, S => (evE b x ρ S).bind fun d S1 => match d with
    | .int i => .ok (.int (-i)) S1
    | _ => .stuck
  | .not_ x, ρ, S => (evE b x ρ S).bind fun d S1 => match truD S1 d with
    | some k => .ok (.bl (!k)) S1
    | none => .stuck
  | .cmp o x y, ρ, S => (evE b x ρ S).bind fun d S1 => (evE b y ρ S1).bind fun e S2 => cmpD o d e S2
  | .chain o p x y z, ρ, S => (evE b x ρ S).bind fun d S1 => (evE b y ρ S1).bind fun e S2 => (cmpD o d e S2).bind fun k S3 => match k with
    | .bl true => (evE b z ρ S3).bind fun f S4 => cmpD p e f S4
    | .bl false => .ok (.bl false) S3
    | _ => .stuck
  | .and_ es, ρ, S => evA b es ρ S
  | .or_ es, ρ, S => evR b es ρ S
  | .ite c x y, ρ, S => (evE b c ρ S).bind fun d S1 => match truD S1 d with
    | some true => evE b x ρ S1
    | some false => evE b y ρ S1
    | none => .stuck
  | .ix x i, ρ, S => (evE b x ρ S).bind fun d S1 => (evE b i ρ S1).bind fun k S2 => ixS d k S2
  | .sl m x lo hi, ρ, S => (evE b x ρ S).bind fun d S1 => (evO b lo ρ S1).bind fun l S2 => if (intO l).isSome then (evO b hi ρ S2).bind fun h S3 => slD m d l h S3 else .stuck
  | .rev m x, ρ, S => (evE b x ρ S).bind fun d S1 => revD m d S1
  | .call _ g es, ρ, S => (evEs b es ρ S).bind fun ds S1 => g b ds S1
  | .bi m o es, ρ, S => (evEs b es ρ S).bind fun ds S1 => biD m o ds S1
  | .isi x t, ρ, S => (evE b x ρ S).bind fun d S1 => match isD S1 d t with
    | some k => .ok (.bl k) S1
    | none => .stuck
  | .bm m o x es, ρ, S => (evE b x ρ S).bind fun d S1 => if (lstOf S1 d).isSome then (evEs b es ρ S1).bind fun ds S2 => bmD b m o d ds S2 else .stuck
  | .lc m own elt tg it c, ρ, S => (evI b it ρ S).bind fun q S1 =>
      (lcL q.2 (fun d S2 => match bindP tg d (wipeD ρ own) with
        | none => .stuck
        | some ρ1 => ((evO b c ρ1 S2).bind truO).bind fun k S3 => if k then (evE b elt ρ1 S3).bind fun x S4 => .ok (some x) S4 else .ok none S3) q.1 [] S1).bind (newL m)
  | .lc2 m own own1 elt tg it tg1 it1, ρ, S => .stuck
  | .fld x C f, ρ, S => (evE b x ρ S).bind fun d S1 => match d with
    | .ref n => match S1[n]? with
      | some (.ins C' fs) => if C' = C then ofO (fs.lookup f) S1 else .stuck
      | _ => .stuck
    | _ => .stuck
  | .mk _ C g es, ρ, S => (evEs b es ρ S).bind fun ds S1 => (g b (.ref S1.length :: ds) (S1 ++ [.ins C []])).bind fun v S2 => match v with
    | .non => .ok (.ref S1.length) S2
    | _ => .stuck
  | .meth x C f g es, ρ, S => (evE b x ρ S).bind fun d S1 => match d with
    | .ref n => match S1[n]? with
      | some (.ins C' fs) => if C' = C ∧ fs.lookup f = none then (evEs b es ρ S1).bind fun ds S2 => g b (.ref n :: ds) S2 else .stuck
      | _ => .stuck
    | _ => .stuck
def evEs (b : Nat) : MEs → Env → Store → Res (List D)
  | .nil, _, S => .ok [] S
  | .cons e es, ρ, S => (evE b e ρ S).bind fun d S1 => (evEs b es ρ S1).bind fun ds S2 => .ok (d :: ds) S2
def evA (b : Nat) : MEs → Env → Store → Res D
  | .nil, _, _ => .stuck
  | .cons e es, ρ, S => match es with
    | .nil => evE b e ρ S
    | .cons _ _ => (evE b e ρ S).bind fun d S1 => match truD S1 d with
      | some true => evA b es ρ S1
      | some false => .ok d S1
      | none => .stuck
def evR (b : Nat) : MEs → Env → Store → Res D
  | .nil, _, _ => .stuck
  | .cons e es, ρ, S => match es with
    | .nil => evE b e ρ S
    | .cons _ _ => (evE b e ρ S).bind fun d S1 => match truD S1 d with
      | some true => .ok d S1
      | some false => evR b es ρ S1
      | none => .stuck
def evO (b : Nat) : MO → Env → Store → Res (Option D)
  | .none, _, S => .ok none S
  | .some e, ρ, S => (evE b e ρ S).bind fun d S1 => .ok (some d) S1
def evI (b : Nat) : MI → Env → Store → Res (List D × Src)
  | .exp e, ρ, S => (evE b e ρ S).bind fun d S1 => match seqOf S1 d with
    | some (_, ds) => .ok (ds, srcOf d ds) S1
    | none => match d with
      | .str s => .ok (s.cps.toList.map fun c => .str ⟨#[c]⟩, []) S1
      | _ => .stuck
  | .rng1 a, ρ, S => (evE b a ρ S).bind fun d S1 => match d with
    | .int j => if -lim ≤ j ∧ j < lim then .ok (rngD 0 j.toNat, []) S1 else .stuck
    | _ => .stuck
  | .rng2 a c, ρ, S => (evE b a ρ S).bind fun d S1 => (evE b c ρ S1).bind fun e S2 => match d, e with
    | .int i, .int j => if (-lim ≤ i ∧ i < lim) ∧ -lim ≤ j ∧ j < lim then .ok (rngD i (j - i).toNat, []) S2 else .stuck
    | _, _ => .stuck
  | .enum e, ρ, S => (evE b e ρ S).bind fun d S1 => match seqOf S1 d with
    | some (_, ds) => .ok (enumD 0 ds, srcOf d ds) S1
    | none => .stuck
  | .zip e f, ρ, S => (evE b e ρ S).bind fun d S1 => (evE b f ρ S1).bind fun g S2 => match seqOf S2 d, seqOf S2 g with
    | some (_, ds), some (_, gs) => .ok (zipD ds gs, srcOf d ds ++ srcOf g gs) S2
    | _, _ => .stuck
  | .zip3 e f h, ρ, S => (evE b e ρ S).bind fun d S1 => (evE b f ρ S1).bind fun g S2 => (evE b h ρ S2).bind fun k S3 => match seqOf S3 d, seqOf S3 g, seqOf S3 k with
    | some (_, ds), some (_, gs), some (_, ks) => .ok (zip3D ds gs ks, srcOf d ds ++ srcOf g gs ++ srcOf k ks) S3
    | _, _, _ => .stuck
end

/-! ### statements -/
inductive SRes where
  | nx (ρ : Env) (S : Store)
  | rt (d : D) (S : Store)
  | exc (c : Nat) (ρ : Env) (S : Store)
  | stuck
def Res.st {α : Type} (r : Res α) (ρ : Env) (k : α → Store → SRes) : SRes := match r with
  | .ok a S => k a S
  | .exc c S => .exc c ρ S
  | .stuck => .stuck
def SRes.seq (r : SRes) (k : Env → Store → SRes) : SRes := match r with
  | .nx ρ S => k ρ S
  | r => r
def putF (f : Str) (v : D) : List (Str × D) → List (Str × D)
  | [] => [(f, v)]
  | p :: r => if p.1 = f then (f, v) :: r else p :: putF f v r
/-- a target is stored -/
def stT (b : Nat) (t : MT) (v : D) (ρ : Env) (S : Store) : SRes := match t with
  | .var i => if i < ρ.length then .nx (ρ.set i (some v)) S else .stuck
  | .sub a i => (evE b a ρ S).st ρ fun x S1 => (evE b i ρ S1).st ρ fun k S2 => match x, k with
    | .ref n, .int k => match S2[n]? with
      | some (.lst ds) => match ixD ds.length k with
        | some j => (match setC b n (.lst (ds.set j v)) (D.pure v) S2 with
          | some S3 => .nx ρ S3
          | none => .stuck)
        | none => .stuck
      | _ => .stuck
    | _, _ => .stuck
  | .attr a C f => (evE b a ρ S).st ρ fun x S1 => match x with
    | .ref n => match S1[n]? with
      | some (.ins C' fs) => if C' = C ∧ fs.length < 1000 then (match setC b n (.ins C (putF f v fs)) (D.pure v) S1 with
          | some S2 => .nx ρ S2
          | none => .stuck) else .stuck
      | _ => .stuck
    | _ => .stuck
def stTs (b : Nat) : List MT → List D → Env → Store → SRes
  | [], [], ρ, S => .nx ρ S
  | t :: ts, v :: vs, ρ, S => (stT b t v ρ S).seq fun ρ1 S1 => stTs b ts vs ρ1 S1
  | _, _, _, _ => .stuck
def forL (src : Src) (f : D → Env → Store → SRes) : List D → Env → Store → SRes
  | [], ρ, S => if src.stays S then .nx ρ S else .stuck
  | d :: ds, ρ, S => if src.stays S then (f d ρ S).seq fun ρ1 S1 => forL src f ds ρ1 S1 else .stuck
def whileL (c : Env → Store → Res D) (f : Env → Store → SRes) : Nat → Env → Store → SRes
  | 0, _, _ => .stuck
  | k + 1, ρ, S => (c ρ S).st ρ fun d S1 => match truD S1 d with
    | some true => (f ρ S1).seq fun ρ1 S2 => whileL c f k ρ1 S2
    | some false => .nx ρ S1
    | none => .stuck
/-- turns of a while, at most (the number is never reckoned out) -/
def fuel : Nat := 2 ^ 20000
mutual
def evS (b : Nat) : MS → Env → Store → SRes
  | .asg t e, ρ, S => (evE b e ρ S).st ρ fun v S1 => stT b t v ρ S1
  | .asgT ts e, ρ, S => (evE b e ρ S).st ρ fun v S1 => match v with
    | .tup ds => if ds.length = ts.length then stTs b ts ds ρ S1 else .stuck
    | _ => .stuck
  | .par is es, ρ, S => (evEs b es ρ S).st ρ fun ds S1 => match bindP (.tup is) (.tup ds) ρ with
    | some ρ1 => .nx ρ1 S1
    | none => .stuck
  | .expr e, ρ, S => (evE b e ρ S).st ρ fun _ S1 => .nx ρ S1
  | .ret e, ρ, S => (evE b e ρ S).st ρ fun d S1 => .rt d S1
  | .ifs c x y, ρ, S => (evE b c ρ S).st ρ fun d S1 => match truD S1 d with
    | some true => evSs b x ρ S1
    | some false => evSs b y ρ S1
    | none => .stuck
  | .for_ p it body, ρ, S => (evI b it ρ S).st ρ fun q S1 => forL q.2 (fun d ρ1 S2 => match bindP p d ρ1 with
      | some ρ2 => evSs b body ρ2 S2
      | none => .stuck) q.1 ρ S1
  | .whil c body, ρ, S => whileL (fun ρ1 S1 => evE b c ρ1 S1) (fun ρ1 S1 => evSs b body ρ1 S1) fuel ρ S
  | .rais _ c, ρ, S => .exc c ρ S
  | .tryc body hs, ρ, S => match evSs b body ρ S with
    | .exc c ρ1 S1 => match hs.find? fun h => h.2.1 == c with
      | some h => .rt (.str h.2.2) S1
      | none => .stuck
    | r => r
def evSs (b : Nat) : MSs → Env → Store → SRes
  | .nil, ρ, S => .nx ρ S
  | .cons s r, ρ, S => (evS b s ρ S).seq fun ρ1 S1 => evSs b r ρ1 S1
end

/-! ### a def -/
def fin (keep : Bool) (d : D) (S S' : Store) : Res D := if keep then .ok d S' else if D.pure d then .ok d (S'.take S.length) else .stuck
/-- a def of n parameters and so many names; keep: its cells are kept -/
def run (keep : Bool) (n slots : Nat) (body : MSs) : FnSem := fun b args S =>
  if args.length = n then
    match evSs (if keep then b else S.length) body (args.map some ++ List.replicate (slots - n) none) S with
    | .nx _ S' => fin keep .non S S'
    | .rt d S' => fin keep d S S'
    | .exc c _ S' => .exc c (if keep then S' else S'.take S.length)
    | .stuck => .stuck
  else .stuck
end Mn

/-! Mini: worlds, what represents data, the store over the abstract heap. -/
namespace Mn
open PySem PySem.Spec PyProof.Rows L2

inductive Kd where | t | l | f
/-- what does not change any more; where the cells lie -/
structure Wd where
  I : Addr → Option (Kd × List V)
  μ : List Addr
  /-- what else stays as it is -/
  F : Addr → Option HO
structure Wd.ex (w w' : Wd) : Prop where
  imm : ∀ (a : Addr) (p : Kd × List V), w.I a = some p → w'.I a = some p
  cel : ∀ (n : Nat) (a : Addr), w.μ[n]? = some a → w'.μ[n]? = some a
structure Wd.le (w w' : Wd) : Prop where
  imm : ∀ (a : Addr) (p : Kd × List V), w.I a = some p → w'.I a = some p
  cel : ∀ (n : Nat) (a : Addr), w.μ[n]? = some a → w'.μ[n]? = some a
  frm : w'.F = w.F
theorem Wd.le.ex {w w' : Wd} (h : w.le w') : w.ex w' := ⟨h.imm, h.cel⟩
theorem Wd.le.refl (w : Wd) : w.le w := ⟨fun _ _ h => h, fun _ _ h => h, rfl⟩
theorem Wd.le.trans {a b c : Wd} (h : a.le b) (k : b.le c) : a.le c := ⟨fun x p e => k.imm x p (h.imm x p e), fun n x e => k.cel n x (h.cel n x e), k.frm.trans h.frm⟩
/-- a list of the module's own -/
def KOwn (K : PySem.W.Frag) (a : Addr) (xs : List V) : Prop :=
  ∃ (o : Obj) (its : Array Value) (n : Nat), K.lookup a = some o ∧ o.cls = .type "list" ∧ o.dict = none ∧ o.data = .seq its n ∧ its.size ≤ sizeLine ∧ Vals xs its.toList
section
variable (K : PySem.W.Frag)
mutual
def Rep (w : Wd) : D → V → Prop
  | .non, v => v = .non
  | .bl b, v => v = .bl b
  | .int i, v => v = .int i
  | .str s, v => v = .str s
  | .tup ds, v => ∃ a vs, v = .ref a ∧ w.I a = some (.t, vs) ∧ Reps w ds vs
  | .lst ds, v => ∃ a vs, v = .ref a ∧ w.I a = some (.l, vs) ∧ Reps w ds vs
  | .scr ds, v => ∃ a vs, v = .ref a ∧ (w.I a = some (.f, vs) ∨ KOwn K a vs) ∧ Reps w ds vs
  | .ref n, v => ∃ a, v = .ref a ∧ w.μ[n]? = some a
def Reps (w : Wd) : List D → List V → Prop
  | [], vs => vs = []
  | d :: ds, vs => ∃ v r, vs = v :: r ∧ Rep w d v ∧ Reps w ds r
end
end
section
variable {K : PySem.W.Frag}
mutual
theorem Rep.mex {w w' : Wd} (h : w.ex w') : ∀ {d : D} {v : V}, Rep K w d v → Rep K w' d v
  | .non, v, r => by simpa [Rep] using r
  | .bl b, v, r => by simpa [Rep] using r
  | .int i, v, r => by simpa [Rep] using r
  | .str s, v, r => by simpa [Rep] using r
  | .tup ds, v, r => by
    simp only [Rep] at r ⊢
    obtain ⟨a, vs, e, i, q⟩ := r
    exact ⟨a, vs, e, h.imm _ _ i, Reps.mex h q⟩
  | .lst ds, v, r => by
    simp only [Rep] at r ⊢
    obtain ⟨a, vs, e, i, q⟩ := r
    exact ⟨a, vs, e, h.imm _ _ i, Reps.mex h q⟩
  | .scr ds, v, r => by
    simp only [Rep] at r ⊢
    obtain ⟨a, vs, e, i, q⟩ := r
    exact ⟨a, vs, e, i.imp (h.imm _ _) id, Reps.mex h q⟩
  | .ref n, v, r => by
    simp only [Rep] at r ⊢
    obtain ⟨a, e, i⟩ := r
    exact ⟨a, e, h.cel _ _ i⟩
theorem Reps.mex {w w' : Wd} (h : w.ex w') : ∀ {ds : List D} {vs : List V}, Reps K w ds vs → Reps K w' ds vs
  | [], vs, r => by simpa [Reps] using r
  | d :: ds, vs, r => by
    simp only [Reps] at r ⊢
    obtain ⟨v, t, e, a, b⟩ := r
    exact ⟨v, t, e, Rep.mex h a, Reps.mex h b⟩
end
theorem Rep.mono {w w' : Wd} (h : w.le w') {d : D} {v : V} (r : Rep K w d v) : Rep K w' d v := r.mex h.ex
theorem Reps.mono {w w' : Wd} (h : w.le w') {ds : List D} {vs : List V} (r : Reps K w ds vs) : Reps K w' ds vs := r.mex h.ex
theorem Reps.length {w : Wd} : ∀ {ds : List D} {vs : List V}, Reps K w ds vs → vs.length = ds.length
  | [], vs, r => by simp only [Reps] at r; subst r; rfl
  | d :: ds, vs, r => by
    simp only [Reps] at r
    obtain ⟨v, t, rfl, a, b⟩ := r
    simp [Reps.length b]
theorem Reps.get {w : Wd} : ∀ {ds : List D} {vs : List V} {i : Nat} {d : D}, Reps K w ds vs → ds[i]? = some d → ∃ v, vs[i]? = some v ∧ Rep K w d v
  | [], vs, i, d, r, e => by simp at e
  | x :: ds, vs, i, d, r, e => by
    simp only [Reps] at r
    obtain ⟨v, t, rfl, a, b⟩ := r
    cases i with
    | zero => simp at e; subst e; exact ⟨v, rfl, a⟩
    | succ i =>
      obtain ⟨u, h1, h2⟩ := Reps.get (i := i) b (by simpa using e)
      exact ⟨u, by simpa using h1, h2⟩
theorem Reps.set {w : Wd} {x : D} {v : V} (hx : Rep K w x v) : ∀ {ds : List D} {vs : List V} (i : Nat), Reps K w ds vs → Reps K w (ds.set i x) (vs.set i v)
  | [], vs, i, r => by simp only [Reps] at r; subst r; simp [Reps]
  | d :: ds, vs, i, r => by
    simp only [Reps] at r
    obtain ⟨u, t, rfl, a, b⟩ := r
    cases i with
    | zero => simp only [List.set_cons_zero, Reps]; exact ⟨v, t, rfl, hx, b⟩
    | succ i => simp only [List.set_cons_succ, Reps]; exact ⟨u, _, rfl, a, Reps.set hx i b⟩
theorem Reps.append {w : Wd} : ∀ {ds es : List D} {vs us : List V}, Reps K w ds vs → Reps K w es us → Reps K w (ds ++ es) (vs ++ us)
  | [], es, vs, us, r, s => by simp only [Reps] at r; subst r; exact s
  | d :: ds, es, vs, us, r, s => by
    simp only [Reps] at r
    obtain ⟨v, t, rfl, a, b⟩ := r
    simp only [List.cons_append, Reps]
    exact ⟨v, _, rfl, a, Reps.append b s⟩
theorem Reps.nil {w : Wd} : Reps K w [] [] := by simp [Reps]
theorem Reps.cons {w : Wd} {d : D} {v : V} {ds : List D} {vs : List V} (a : Rep K w d v) (b : Reps K w ds vs) : Reps K w (d :: ds) (v :: vs) := by
  simp only [Reps]; exact ⟨v, vs, rfl, a, b⟩
theorem Reps.one {w : Wd} {d : D} {v : V} (a : Rep K w d v) : Reps K w [d] [v] := .cons a .nil
theorem Reps.drop {w : Wd} : ∀ {ds : List D} {vs : List V} (n : Nat), Reps K w ds vs → Reps K w (ds.drop n) (vs.drop n)
  | ds, vs, 0, r => r
  | [], vs, n + 1, r => by simp only [Reps] at r; subst r; simp [Reps]
  | d :: ds, vs, n + 1, r => by
    simp only [Reps] at r
    obtain ⟨v, t, rfl, a, b⟩ := r
    exact Reps.drop n b
theorem Reps.take {w : Wd} : ∀ {ds : List D} {vs : List V} (n : Nat), Reps K w ds vs → Reps K w (ds.take n) (vs.take n)
  | ds, vs, 0, r => by simp [Reps]
  | [], vs, n + 1, r => by simp only [Reps] at r; subst r; simp [Reps]
  | d :: ds, vs, n + 1, r => by
    simp only [Reps] at r
    obtain ⟨v, t, rfl, a, b⟩ := r
    exact .cons a (Reps.take n b)
theorem Reps.reverse {w : Wd} : ∀ {ds : List D} {vs : List V}, Reps K w ds vs → Reps K w ds.reverse vs.reverse
  | [], vs, r => by simp only [Reps] at r; subst r; simp [Reps]
  | d :: ds, vs, r => by
    simp only [Reps] at r
    obtain ⟨v, t, rfl, a, b⟩ := r
    rw [List.reverse_cons, List.reverse_cons]
    exact (Reps.reverse b).append (.one a)
theorem Reps.flat {w : Wd} {ds : List D} {vs : List V} (r : Reps K w ds vs) : ∀ k : Nat, Reps K w (List.replicate k ds).flatten (List.replicate k vs).flatten
  | 0 => by simp [Reps]
  | k + 1 => by
    rw [List.replicate_succ, List.replicate_succ, List.flatten_cons, List.flatten_cons]
    exact r.append (Reps.flat r k)
theorem Reps.dropLast {w : Wd} {ds : List D} {vs : List V} (r : Reps K w ds vs) : Reps K w ds.dropLast vs.dropLast := by
  rw [List.dropLast_eq_take, List.dropLast_eq_take, r.length]
  exact r.take _

/-! references -/
mutual
def D.under (b : Nat) : D → Prop
  | .tup xs => D.unders b xs
  | .lst xs => D.unders b xs
  | .scr xs => D.unders b xs
  | .ref n => n < b
  | _ => True
def D.unders (b : Nat) : List D → Prop
  | [] => True
  | a :: r => D.under b a ∧ D.unders b r
end
mutual
theorem D.under_pure {b : Nat} : ∀ {d : D}, D.pure d = true → D.under b d
  | .non, _ => by simp [D.under]
  | .bl _, _ => by simp [D.under]
  | .int _, _ => by simp [D.under]
  | .str _, _ => by simp [D.under]
  | .tup xs, h => by simp only [D.under, D.pure] at h ⊢; exact D.unders_pure h
  | .lst xs, h => by simp only [D.under, D.pure] at h ⊢; exact D.unders_pure h
  | .scr xs, h => by simp only [D.under, D.pure] at h ⊢; exact D.unders_pure h
  | .ref n, h => by simp [D.pure] at h
theorem D.unders_pure {b : Nat} : ∀ {d : List D}, D.pures d = true → D.unders b d
  | [], _ => by simp [D.unders]
  | a :: r, h => by
    simp only [D.unders, D.pures, Bool.and_eq_true] at h ⊢
    exact ⟨D.under_pure h.1, D.unders_pure h.2⟩
end
mutual
theorem Rep.under {w : Wd} : ∀ {d : D} {v : V}, Rep K w d v → D.under w.μ.length d
  | .non, v, r => by simp [D.under]
  | .bl b, v, r => by simp [D.under]
  | .int i, v, r => by simp [D.under]
  | .str s, v, r => by simp [D.under]
  | .tup ds, v, r => by
    simp only [Rep, D.under] at r ⊢
    obtain ⟨a, vs, e, i, q⟩ := r
    exact Reps.unders q
  | .lst ds, v, r => by
    simp only [Rep, D.under] at r ⊢
    obtain ⟨a, vs, e, i, q⟩ := r
    exact Reps.unders q
  | .scr ds, v, r => by
    simp only [Rep, D.under] at r ⊢
    obtain ⟨a, vs, e, i, q⟩ := r
    exact Reps.unders q
  | .ref n, v, r => by
    simp only [Rep, D.under] at r ⊢
    obtain ⟨a, e, i⟩ := r
    exact (List.getElem?_eq_some_iff.mp i).1
theorem Reps.unders {w : Wd} : ∀ {ds : List D} {vs : List V}, Reps K w ds vs → D.unders w.μ.length ds
  | [], vs, r => by simp [D.unders]
  | d :: ds, vs, r => by
    simp only [Reps, D.unders] at r ⊢
    obtain ⟨v, t, e, a, b⟩ := r
    exact ⟨Rep.under a, Reps.unders b⟩
end
mutual
theorem Rep.cut {w : Wd} {n : Nat} : ∀ {d : D} {v : V}, Rep K w d v → D.under n d → Rep K ⟨w.I, w.μ.take n, w.F⟩ d v
  | .non, v, r, _ => by simpa [Rep] using r
  | .bl b, v, r, _ => by simpa [Rep] using r
  | .int i, v, r, _ => by simpa [Rep] using r
  | .str s, v, r, _ => by simpa [Rep] using r
  | .tup ds, v, r, q => by
    simp only [Rep, D.under] at r q ⊢
    obtain ⟨a, vs, e, i, k⟩ := r
    exact ⟨a, vs, e, i, Reps.cut k q⟩
  | .lst ds, v, r, q => by
    simp only [Rep, D.under] at r q ⊢
    obtain ⟨a, vs, e, i, k⟩ := r
    exact ⟨a, vs, e, i, Reps.cut k q⟩
  | .scr ds, v, r, q => by
    simp only [Rep, D.under] at r q ⊢
    obtain ⟨a, vs, e, i, k⟩ := r
    exact ⟨a, vs, e, i, Reps.cut k q⟩
  | .ref m, v, r, q => by
    simp only [Rep, D.under] at r q ⊢
    obtain ⟨a, e, i⟩ := r
    exact ⟨a, e, by rw [List.getElem?_take_of_lt q]; exact i⟩
theorem Reps.cut {w : Wd} {n : Nat} : ∀ {ds : List D} {vs : List V}, Reps K w ds vs → D.unders n ds → Reps K ⟨w.I, w.μ.take n, w.F⟩ ds vs
  | [], vs, r, _ => by simpa [Reps] using r
  | d :: ds, vs, r, q => by
    simp only [Reps, D.unders] at r q ⊢
    obtain ⟨v, t, e, a, b⟩ := r
    exact ⟨v, t, e, Rep.cut a q.1, Reps.cut b q.2⟩
end

/-! fields -/
def FReps (K : PySem.W.Frag) (w : Wd) : List (Str × D) → List (Str × V) → Prop
  | [], gs => gs = []
  | p :: fs, gs => ∃ v r, gs = (p.1, v) :: r ∧ Rep K w p.2 v ∧ FReps K w fs r
theorem FReps.mex {w w' : Wd} (h : w.ex w') : ∀ {fs : List (Str × D)} {gs : List (Str × V)}, FReps K w fs gs → FReps K w' fs gs
  | [], gs, r => r
  | p :: fs, gs, r => by
    obtain ⟨v, t, e, a, b⟩ := r
    exact ⟨v, t, e, a.mex h, FReps.mex h b⟩
theorem FReps.mono {w w' : Wd} (h : w.le w') {fs : List (Str × D)} {gs : List (Str × V)} (r : FReps K w fs gs) : FReps K w' fs gs := r.mex h.ex
theorem FReps.length {w : Wd} : ∀ {fs : List (Str × D)} {gs : List (Str × V)}, FReps K w fs gs → gs.length = fs.length
  | [], gs, r => by cases r; rfl
  | p :: fs, gs, r => by
    obtain ⟨v, t, rfl, a, b⟩ := r
    simp [FReps.length b]
theorem FReps.lookup {w : Wd} {f : Str} : ∀ {fs : List (Str × D)} {gs : List (Str × V)}, FReps K w fs gs → (∀ d, fs.lookup f = some d → ∃ v, gs.lookup f = some v ∧ Rep K w d v) ∧ (fs.lookup f = none → gs.lookup f = none)
  | [], gs, r => by
    cases r
    exact ⟨fun d e => by simp at e, fun _ => rfl⟩
  | p :: fs, gs, r => by
    obtain ⟨v, t, rfl, a, b⟩ := r
    obtain ⟨g, x⟩ := p
    obtain ⟨i1, i2⟩ := FReps.lookup (f := f) b
    simp only [List.lookup_cons]
    cases f == g with
    | true => exact ⟨fun d e => ⟨v, rfl, by simp at e; subst e; exact a⟩, fun e => by simp at e⟩
    | false => exact ⟨i1, i2⟩
theorem FReps.put {w : Wd} {f : Str} {d : D} {v : V} (hv : Rep K w d v) : ∀ {fs : List (Str × D)} {gs : List (Str × V)}, FReps K w fs gs → FReps K w (putF f d fs) (L2.putF f v gs)
  | [], gs, r => by
    cases r
    exact ⟨v, [], rfl, hv, rfl⟩
  | p :: fs, gs, r => by
    obtain ⟨u, t, rfl, a, b⟩ := r
    obtain ⟨g, x⟩ := p
    by_cases h : g = f
    · simp only [putF, L2.putF, h, if_true]
      exact ⟨v, t, rfl, hv, b⟩
    · simp only [putF, L2.putF, h, if_false]
      exact ⟨u, _, rfl, a, FReps.put hv b⟩
theorem FReps.unders {w : Wd} : ∀ {fs : List (Str × D)} {gs : List (Str × V)}, FReps K w fs gs → ∀ p ∈ fs, D.under w.μ.length p.2
  | [], gs, r => by simp
  | p :: fs, gs, r => by
    obtain ⟨v, t, rfl, a, b⟩ := r
    intro q hq
    rcases List.mem_cons.mp hq with e | e
    · rw [e]; exact a.under
    · exact FReps.unders b q e
theorem FReps.cut {w : Wd} {n : Nat} : ∀ {fs : List (Str × D)} {gs : List (Str × V)}, FReps K w fs gs → (∀ p ∈ fs, D.under n p.2) → FReps K ⟨w.I, w.μ.take n, w.F⟩ fs gs
  | [], gs, r, _ => r
  | p :: fs, gs, r, q => by
    obtain ⟨v, t, rfl, a, b⟩ := r
    exact ⟨v, t, rfl, a.cut (q p List.mem_cons_self), FReps.cut b fun x hx => q x (List.mem_cons_of_mem _ hx)⟩
theorem mem_putF {f : Str} {d : D} {q : Str × D} : ∀ {fs : List (Str × D)}, q ∈ putF f d fs → q ∈ fs ∨ q.2 = d
  | [], h => by simp [putF] at h; exact .inr (by rw [h])
  | p :: fs, h => by
    unfold putF at h
    split at h
    · rcases List.mem_cons.mp h with e | e
      · exact .inr (by rw [e])
      · exact .inl (List.mem_cons_of_mem _ e)
    · rcases List.mem_cons.mp h with e | e
      · exact .inl (by rw [e]; exact List.mem_cons_self)
      · exact (mem_putF e).imp (List.mem_cons_of_mem _) id

/-! ### the store over the heap -/
def CellOk (K : PySem.W.Frag) (cl : Nat → Addr) (w : Wd) (H : Hp) (a : Addr) : Cell → Prop
  | .lst ds => ∃ vs, H a = some (.lst vs) ∧ Reps K w ds vs ∧ w.I a = none
  | .frz ds => ∃ vs, w.I a = some (.l, vs) ∧ Reps K w ds vs
  | .ins c fs => ∃ dx gs, H a = some (.ins (cl c) dx gs) ∧ FReps K w fs gs ∧ w.I a = none
def Cell.under (b : Nat) : Cell → Prop
  | .lst ds => D.unders b ds
  | .frz ds => D.unders b ds
  | .ins _ fs => ∀ p ∈ fs, D.under b p.2
def Scoped (b : Nat) (S : Store) : Prop := ∀ n c, n < b → S[n]? = some c → c.under b
def KdOk (H : Hp) (a : Addr) (vs : List V) : Kd → Prop
  | .t => H a = some (.tup vs)
  | .l => H a = some (.lst vs)
  | .f => ∃ o, H a = some (.frz o (.lst vs))
structure HR (K : PySem.W.Frag) (cl : Nat → Addr) (B : List Nat) (w : Wd) (H : Hp) (S : Store) : Prop where
  imm : ∀ a b vs, w.I a = some (b, vs) → KdOk H a vs b
  len : w.μ.length = S.length
  nd : w.μ.Nodup
  cel : ∀ (n : Nat) a c, w.μ[n]? = some a → S[n]? = some c → CellOk K cl w H a c
  sco : ∀ b ∈ B, b ≤ S.length ∧ Scoped b S
  frm : ∀ a o, w.F a = some o → H a = some o ∧ a ∉ w.μ ∧ w.I a = none
section
variable {cl : Nat → Addr} {B : List Nat} {w : Wd} {H : Hp} {S : Store}
theorem rd_some {H : Hp} {a : Addr} {vs : List V} {b : Kd} (r : KdOk H a vs b) : H a ≠ none := by
  cases b with
  | t => rw [show H a = some (.tup vs) from r]; simp
  | l => rw [show H a = some (.lst vs) from r]; simp
  | f => obtain ⟨o, r⟩ := r; rw [r]; simp
theorem HR.ne (h : HR K cl B w H S) {n : Nat} {a : Addr} (e : w.μ[n]? = some a) : H a ≠ none := by
  have hn : n < S.length := by rw [← h.len]; exact (List.getElem?_eq_some_iff.mp e).1
  have q := h.cel n a S[n] e (List.getElem?_eq_getElem hn)
  cases hc : S[n] with
  | lst ds => rw [hc] at q; obtain ⟨vs, q, _⟩ := q; rw [q]; simp
  | frz ds =>
    rw [hc] at q; obtain ⟨vs, q, _⟩ := q
    exact rd_some (h.imm _ _ _ q)
  | ins c fs => rw [hc] at q; obtain ⟨dx, gs, q, _⟩ := q; rw [q]; simp
theorem HR.nI (h : HR K cl B w H S) {p : Addr} (hp : H p = none) : w.I p = none := by
  cases e : w.I p with
  | none => rfl
  | some q =>
    obtain ⟨b, vs⟩ := q
    exact absurd hp (rd_some (h.imm p b vs e))
theorem HR.nμ (h : HR K cl B w H S) {p : Addr} (hp : H p = none) : p ∉ w.μ := fun hm => by
  obtain ⟨n, hn⟩ := List.getElem?_of_mem hm
  exact h.ne hn hp
theorem rd_upd {a p : Addr} {vs : List V} {b : Kd} {o : HO} (r : KdOk H a vs b) (h : H p = none ∨ a ≠ p) : KdOk (upd H p o) a vs b := by
  have hne : a ≠ p := by
    rcases h with h | h
    · rintro rfl; exact rd_some r h
    · exact h
  cases b with
  | t => exact (upd_ne hne).trans r
  | l => exact (upd_ne hne).trans r
  | f => obtain ⟨z, r⟩ := r; exact ⟨z, (upd_ne hne).trans r⟩
theorem Wd.le_imm {p : Addr} {q : Kd × List V} (h : w.I p = none) : w.le ⟨fun a => if a = p then some q else w.I a, w.μ, w.F⟩ := by
  refine ⟨fun a r e => ?_, fun _ _ e => e, rfl⟩
  show (if a = p then some q else w.I a) = some r
  by_cases hp : a = p
  · rw [hp, h] at e; cases e
  · rw [if_neg hp]; exact e
/-- something untracked is laid -/
theorem HR.other (h : HR K cl B w H S) {p : Addr} {o : HO} (hp : H p = none) : HR K cl B w (upd H p o) S := by
  refine ⟨fun a b vs e => rd_upd (h.imm a b vs e) (.inl hp), h.len, h.nd, fun n a c e1 e2 => ?_, h.sco, fun a u e => ?_⟩
  rotate_left
  · obtain ⟨q1, q2, q3⟩ := h.frm a u e
    exact ⟨(upd_ne (ne_of_none q1 hp)).trans q1, q2, q3⟩
  have q := h.cel n a c e1 e2
  have hne : a ≠ p := fun e => h.ne e1 (by rw [e]; exact hp)
  cases c with
  | lst ds => obtain ⟨vs, q1, q2, q3⟩ := q; exact ⟨vs, by rw [upd_ne hne]; exact q1, q2, q3⟩
  | frz ds => exact q
  | ins c fs => obtain ⟨dx, gs, q1, q2, q3⟩ := q; exact ⟨dx, gs, by rw [upd_ne hne]; exact q1, q2, q3⟩
/-- a new tuple or list of data -/
theorem HR.imm1 (h : HR K cl B w H S) {p : Addr} (b : Kd) {vs : List V} {o : HO} (hp : H p = none) (ho : KdOk (upd H p o) p vs b) :
    HR K cl B ⟨fun a => if a = p then some (b, vs) else w.I a, w.μ, w.F⟩ (upd H p o) S := by
  have le := Wd.le_imm (q := (b, vs)) (h.nI hp)
  refine ⟨fun a c us e => ?_, h.len, h.nd, fun n a c e1 e2 => ?_, h.sco, fun a u e => ?_⟩
  rotate_left 2
  · obtain ⟨q1, q2, q3⟩ := h.frm a u e
    have hne : a ≠ p := ne_of_none q1 hp
    exact ⟨(upd_ne hne).trans q1, q2, by show (if a = p then _ else _) = _; rw [if_neg hne]; exact q3⟩
  · by_cases ha : a = p
    · subst ha
      have e' : (if a = a then some (b, vs) else w.I a) = some (c, us) := e
      rw [if_pos rfl] at e'
      cases e'
      exact ho
    · have e' : (if a = p then some (b, vs) else w.I a) = some (c, us) := e
      rw [if_neg ha] at e'
      exact rd_upd (h.imm a c us e') (.inr ha)
  · have q := h.cel n a c e1 e2
    have hne : a ≠ p := fun e => h.ne e1 (by rw [e]; exact hp)
    cases c with
    | lst ds => obtain ⟨us, q1, q2, q3⟩ := q; exact ⟨us, by rw [upd_ne hne]; exact q1, q2.mono le, by show (if a = p then _ else _) = _; rw [if_neg hne]; exact q3⟩
    | frz ds => obtain ⟨us, q1, q2⟩ := q; exact ⟨us, le.imm _ _ q1, q2.mono le⟩
    | ins c fs => obtain ⟨dx, gs, q1, q2, q3⟩ := q; exact ⟨dx, gs, by rw [upd_ne hne]; exact q1, q2.mono le, by show (if a = p then _ else _) = _; rw [if_neg hne]; exact q3⟩
theorem Scoped.app (c : Cell) {b : Nat} (hb : b ≤ S.length) (h : Scoped b S) : Scoped b (S ++ [c]) := fun n d hn e => by
  rw [List.getElem?_append_left (by omega)] at e
  exact h n d hn e
theorem Wd.le_cel (w : Wd) (p : Addr) : w.le ⟨w.I, w.μ ++ [p], w.F⟩ := ⟨fun _ _ h => h, fun n a e => by
  show (w.μ ++ [p])[n]? = _
  rw [List.getElem?_append_left (List.getElem?_eq_some_iff.mp e).1]
  exact e, rfl⟩
/-- a new cell -/
theorem HR.cell1 (h : HR K cl B w H S) {p : Addr} {c : Cell} {o : HO} (hp : H p = none) (hc : CellOk K cl ⟨w.I, w.μ ++ [p], w.F⟩ (upd H p o) p c) : HR K cl B ⟨w.I, w.μ ++ [p], w.F⟩ (upd H p o) (S ++ [c]) := by
  have le := w.le_cel p
  refine ⟨fun a b vs e => rd_upd (h.imm a b vs e) (.inl hp), by simp [h.len], ?_, fun n a d e1 e2 => ?_, fun b hb => ?_, fun a u e => ?_⟩
  rotate_left 3
  · obtain ⟨q1, q2, q3⟩ := h.frm a u e
    have hne : a ≠ p := ne_of_none q1 hp
    refine ⟨(upd_ne hne).trans q1, fun hm => ?_, q3⟩
    rcases List.mem_append.mp hm with z | z
    · exact q2 z
    · exact hne (by simpa using z)
  · show (w.μ ++ [p]).Nodup
    rw [List.nodup_append]
    refine ⟨h.nd, by simp, fun a ha b hb => ?_⟩
    have : b = p := by simpa using hb
    subst this
    rintro rfl
    exact h.nμ hp ha
  · by_cases hn : n < S.length
    · have e1' : w.μ[n]? = some a := by
        have e1 : (w.μ ++ [p])[n]? = some a := e1
        rw [List.getElem?_append_left (by rw [h.len]; exact hn)] at e1
        exact e1
      rw [List.getElem?_append_left hn] at e2
      have q := h.cel n a d e1' e2
      have hne : a ≠ p := fun e => h.ne e1' (by rw [e]; exact hp)
      cases d with
      | lst ds => obtain ⟨us, q1, q2, q3⟩ := q; exact ⟨us, by rw [upd_ne hne]; exact q1, q2.mono le, q3⟩
      | frz ds => obtain ⟨us, q1, q2⟩ := q; exact ⟨us, q1, q2.mono le⟩
      | ins c fs => obtain ⟨dx, gs, q1, q2, q3⟩ := q; exact ⟨dx, gs, by rw [upd_ne hne]; exact q1, q2.mono le, q3⟩
    · have hn' : n = S.length := by
        have := (List.getElem?_eq_some_iff.mp e2).1
        simp at this
        omega
      subst hn'
      have ea : a = p := by
        have e1 : (w.μ ++ [p])[S.length]? = some a := e1
        rw [← h.len] at e1
        simp at e1
        exact e1.symm
      have ed : d = c := by
        simp at e2
        exact e2.symm
      subst ea ed
      exact hc
  · have := h.sco b hb
    exact ⟨by simp; omega, this.2.app c this.1⟩
/-- a cell is written -/
theorem HR.set1 (h : HR K cl B w H S) {n : Nat} {a : Addr} {c : Cell} {o : HO} (e : w.μ[n]? = some a) (hI : w.I a = none) (hc : CellOk K cl w (upd H a o) a c) (hs : ∀ b ∈ B, n < b → c.under b) : HR K cl B w (upd H a o) (S.set n c) := by
  refine ⟨fun x b vs e' => rd_upd (h.imm x b vs e') (.inr fun q => by rw [q, hI] at e'; cases e'), by simp [h.len], h.nd, fun m x d e1 e2 => ?_, fun b hb => ?_, fun x u e' => ?_⟩
  rotate_left 2
  · obtain ⟨q1, q2, q3⟩ := h.frm x u e'
    have hne : x ≠ a := fun z => q2 (by rw [z]; exact List.mem_of_getElem? e)
    exact ⟨(upd_ne hne).trans q1, q2, q3⟩
  · by_cases hm : m = n
    · subst hm
      rw [e] at e1; cases e1
      have hl : m < S.length := by rw [← h.len]; exact (List.getElem?_eq_some_iff.mp e).1
      rw [List.getElem?_set_self hl] at e2
      cases e2
      exact hc
    · rw [List.getElem?_set_ne (Ne.symm hm)] at e2
      have q := h.cel m x d e1 e2
      have hne : x ≠ a := by
        rintro rfl
        obtain ⟨h1, q1⟩ := List.getElem?_eq_some_iff.mp e
        obtain ⟨h2, q2⟩ := List.getElem?_eq_some_iff.mp e1
        exact hm ((List.getElem_inj h.nd).mp (q2.trans q1.symm))
      cases d with
      | lst ds => obtain ⟨us, q1, q2, q3⟩ := q; exact ⟨us, by rw [upd_ne hne]; exact q1, q2, q3⟩
      | frz ds => exact q
      | ins c fs => obtain ⟨dx, gs, q1, q2, q3⟩ := q; exact ⟨dx, gs, by rw [upd_ne hne]; exact q1, q2, q3⟩
  · obtain ⟨s1, s2⟩ := h.sco b hb
    refine ⟨by simp; exact s1, fun m d hm e2 => ?_⟩
    by_cases hmn : m = n
    · subst hmn
      have hl : m < S.length := by rw [← h.len]; exact (List.getElem?_eq_some_iff.mp e).1
      rw [List.getElem?_set_self hl] at e2
      cases e2
      exact hs b hb hm
    · rw [List.getElem?_set_ne (Ne.symm hmn)] at e2
      exact s2 m d hm e2
/-- a list's cell is frozen -/
theorem HR.frz1 (h : HR K cl B w H S) {n : Nat} {a : Addr} {ds : List D} {vs : List V} (e : w.μ[n]? = some a) (e2 : S[n]? = some (.lst ds)) (hv : H a = some (.lst vs)) (hr : Reps K w ds vs) (hI : w.I a = none) :
    HR K cl B ⟨fun x => if x = a then some (.l, vs) else w.I x, w.μ, w.F⟩ H (S.set n (.frz ds)) := by
  have le := Wd.le_imm (q := (.l, vs)) hI
  refine ⟨fun x b us e' => ?_, by simp [h.len], h.nd, fun m x d e1 e3 => ?_, fun b hb => ?_, fun x u e' => ?_⟩
  rotate_left 3
  · obtain ⟨q1, q2, q3⟩ := h.frm x u e'
    have hne : x ≠ a := fun z => q2 (by rw [z]; exact List.mem_of_getElem? e)
    exact ⟨q1, q2, by show (if x = a then _ else _) = _; rw [if_neg hne]; exact q3⟩
  · by_cases hx : x = a
    · subst hx
      have e' : (if x = x then some (.l, vs) else w.I x) = some (b, us) := e'
      rw [if_pos rfl] at e'
      cases e'
      exact hv
    · have e' : (if x = a then some (.l, vs) else w.I x) = some (b, us) := e'
      rw [if_neg hx] at e'
      exact h.imm x b us e'
  · by_cases hm : m = n
    · subst hm
      have e1 : w.μ[m]? = some x := e1
      rw [e] at e1; cases e1
      have hl : m < S.length := by rw [← h.len]; exact (List.getElem?_eq_some_iff.mp e).1
      rw [List.getElem?_set_self hl] at e3
      cases e3
      exact ⟨vs, if_pos rfl, hr.mono le⟩
    · rw [List.getElem?_set_ne (Ne.symm hm)] at e3
      have e1 : w.μ[m]? = some x := e1
      have q := h.cel m x d e1 e3
      have hne : x ≠ a := by
        rintro rfl
        obtain ⟨h1, q1⟩ := List.getElem?_eq_some_iff.mp e
        obtain ⟨h2, q2⟩ := List.getElem?_eq_some_iff.mp e1
        exact hm ((List.getElem_inj h.nd).mp (q2.trans q1.symm))
      cases d with
      | lst ds => obtain ⟨us, q1, q2, q3⟩ := q; exact ⟨us, q1, q2.mono le, by show (if x = a then _ else _) = _; rw [if_neg hne]; exact q3⟩
      | frz ds => obtain ⟨us, q1, q2⟩ := q; exact ⟨us, le.imm _ _ q1, q2.mono le⟩
      | ins c fs => obtain ⟨dx, gs, q1, q2, q3⟩ := q; exact ⟨dx, gs, q1, q2.mono le, by show (if x = a then _ else _) = _; rw [if_neg hne]; exact q3⟩
  · obtain ⟨s1, s2⟩ := h.sco b hb
    refine ⟨by simp; exact s1, fun m d hm e3 => ?_⟩
    by_cases hmn : m = n
    · subst hmn
      have hl : m < S.length := by rw [← h.len]; exact (List.getElem?_eq_some_iff.mp e).1
      rw [List.getElem?_set_self hl] at e3
      cases e3
      exact (show Cell.under b (.lst ds) from s2 m _ hm e2)
    · rw [List.getElem?_set_ne (Ne.symm hmn)] at e3
      exact s2 m d hm e3
theorem CellOk.under {a : Addr} : ∀ {c : Cell}, CellOk K cl w H a c → c.under w.μ.length
  | .lst ds, q => by obtain ⟨us, q1, q2, q3⟩ := q; exact q2.unders
  | .frz ds, q => by obtain ⟨us, q1, q2⟩ := q; exact q2.unders
  | .ins c fs, q => by obtain ⟨dx, gs, q1, q2, q3⟩ := q; exact q2.unders
/-- a def's own region begins -/
theorem HR.enter (h : HR K cl B w H S) : HR K cl (S.length :: B) w H S := by
  refine ⟨h.imm, h.len, h.nd, h.cel, fun b hb => ?_, h.frm⟩
  rcases List.mem_cons.mp hb with e | hb
  · subst e
    refine ⟨Nat.le_refl _, fun n c hn e => ?_⟩
    have hn' : n < w.μ.length := by rw [h.len]; exact hn
    have := (h.cel n w.μ[n] c (List.getElem?_eq_getElem hn') e).under
    rw [h.len] at this
    exact this
  · exact h.sco b hb
/-- .. and ends -/
theorem HR.leave {n : Nat} {w₀ : Wd} (h : HR K cl (n :: B) w H S) (hB : ∀ b ∈ B, b ≤ n) (le : w₀.le w) (hn : w₀.μ.length = n) : w₀.le ⟨w.I, w.μ.take n, w.F⟩ ∧ HR K cl B ⟨w.I, w.μ.take n, w.F⟩ H (S.take n) := by
  obtain ⟨s1, s2⟩ := h.sco n List.mem_cons_self
  refine ⟨⟨le.imm, fun m a e => ?_, le.frm⟩, h.imm, by simp [h.len], h.nd.sublist (List.take_sublist _ _), fun m a c e1 e2 => ?_, fun b hb => ?_, fun a u e => ?_⟩
  rotate_left 3
  · obtain ⟨q1, q2, q3⟩ := h.frm a u e
    exact ⟨q1, fun hm => q2 (List.mem_of_mem_take hm), q3⟩
  · have := (List.getElem?_eq_some_iff.mp e).1
    show (w.μ.take n)[m]? = _
    rw [List.getElem?_take_of_lt (by omega)]
    exact le.cel m a e
  · have hm : m < n := by
      have := (List.getElem?_eq_some_iff.mp e2).1
      simp at this
      omega
    have e1 : (w.μ.take n)[m]? = some a := e1
    rw [List.getElem?_take_of_lt hm] at e1 e2
    have q := h.cel m a c e1 e2
    have bl := s2 m c hm e2
    cases c with
    | lst ds => obtain ⟨us, q1, q2, q3⟩ := q; exact ⟨us, q1, q2.cut bl, q3⟩
    | frz ds => obtain ⟨us, q1, q2⟩ := q; exact ⟨us, q1, q2.cut bl⟩
    | ins c fs => obtain ⟨dx, gs, q1, q2, q3⟩ := q; exact ⟨dx, gs, q1, q2.cut bl, q3⟩
  · have hbn := hB b hb
    obtain ⟨t1, t2⟩ := h.sco b (List.mem_cons_of_mem _ hb)
    refine ⟨by simp; omega, fun m c hm e => ?_⟩
    rw [List.getElem?_take_of_lt (by omega)] at e
    exact t2 m c hm e
/-- the frame with one thing more -/
def Wd.pin (w : Wd) (p : Addr) (o : HO) : Wd := ⟨w.I, w.μ, fun a => if a = p then some o else w.F a⟩
theorem Wd.pin_ex (w : Wd) (p : Addr) (o : HO) : w.ex (w.pin p o) := ⟨fun _ _ e => e, fun _ _ e => e⟩
theorem HR.pin (h : HR K cl B w H S) {p : Addr} (o : HO) (hp : H p = none) : HR K cl B (w.pin p o) (upd H p o) S := by
  have q := h.other (o := o) hp
  refine ⟨q.imm, q.len, q.nd, fun n a c e1 e2 => ?_, q.sco, fun a u e => ?_⟩
  · have z := q.cel n a c e1 e2
    cases c with
    | lst ds => obtain ⟨vs, q1, q2, q3⟩ := z; exact ⟨vs, q1, q2.mex (w.pin_ex p o), q3⟩
    | frz ds => obtain ⟨vs, q1, q2⟩ := z; exact ⟨vs, q1, q2.mex (w.pin_ex p o)⟩
    | ins c fs => obtain ⟨dx, gs, q1, q2, q3⟩ := z; exact ⟨dx, gs, q1, q2.mex (w.pin_ex p o), q3⟩
  · by_cases ha : a = p
    · have e' : (if a = p then some o else w.F a) = some u := e
      rw [if_pos ha] at e'
      cases e'
      rw [ha]
      exact ⟨upd_same, h.nμ hp, h.nI hp⟩
    · have e' : (if a = p then some o else w.F a) = some u := e
      rw [if_neg ha] at e'
      exact q.frm a u e'
theorem HR.sqL (h : HR K cl B w H S) {a : Addr} {vs : List V} (r : w.I a = some (.l, vs)) : H a = some (.lst vs) := h.imm a .l vs r
theorem HR.sqF (h : HR K cl B w H S) {a : Addr} {vs : List V} (r : w.I a = some (.f, vs) ∨ KOwn K a vs) : SqL K H a vs := by
  rcases r with r | r
  · obtain ⟨o, e⟩ := h.imm a .f vs r
    exact .inl (.inr ⟨o, e⟩)
  · exact .inr r
theorem HR.sqT (h : HR K cl B w H S) {a : Addr} {vs : List V} (r : w.I a = some (.t, vs)) : H a = some (.tup vs) := h.imm a .t vs r
end
end
end Mn

/-! Mini: enumerate and zip over lists and tuples in any mix, as walks of the hand layer. -/
namespace Mn
open PySem PySem.Spec PyProof.Rows L2

def Sq (k : Bool) (K : PySem.W.Frag) (H : Hp) (a : Addr) (xs : List V) : Prop := if k then SqL K H a xs else SqT K H a xs
def SrcIt (k : Bool) (h : Heap) (it a : Addr) (i : Nat) : Prop := if k then h.IsListIter it a i else h.IsTupleIter it a i
def SrcIs (k : Bool) (h : Heap) (a : Addr) (xs : Array Value) : Prop := if k then h.IsList a xs else h.IsTuple a xs
def srcObj (k : Bool) (a : Addr) : Obj := if k then { cls := .type "list_iterator", data := .fields #[.ref a, .int 0 0] } else { cls := .type "tuple_iterator", data := .fields #[.ref a, .int 0 0] }
section
variable {X : Cx} {pins : List (Addr × Obj)} {σ : L2.St} {H : Hp} {s : Shared} {k : Bool} {a it : Addr} {xs ys : List V}
theorem sq_is (I : Inv X pins σ H s) (h : Sq k X.K H a xs) : ∃ its : List Value, Vals xs its ∧ SrcIs k s.heap a its.toArray ∧ xs.length ≤ sizeLine := by
  cases k with
  | true =>
    obtain ⟨its, r, p, z⟩ := I.list h
    exact ⟨its, r, p.isList, z⟩
  | false =>
    obtain ⟨its, r, p, z⟩ := I.tuple h
    exact ⟨its, r, p, z⟩
theorem sq_inj (I : Inv X pins σ H s) (h : Sq k X.K H a xs) (h' : Sq k X.K H a ys) : xs = ys := by
  cases k with
  | true => exact I.list_inj h h'
  | false => exact I.tuple_inj h h'
theorem srcIt_at {h h' : Heap} {i : Nat} (x : SrcIt k h it a i) (q : ∀ o, h.get? it = some o → h'.get? it = some o) : SrcIt k h' it a i := by
  cases k with
  | true => exact Heap.IsListIter.at x q
  | false => exact Heap.IsTupleIter.at x q
theorem srcIt_obj {h : Heap} {i : Nat} (x : SrcIt k h it a i) : ∃ o, h.get? it = some o ∧ ∀ v, o.data ≠ .cell v := by
  cases k with
  | true => obtain ⟨o, e, _, d⟩ := x; exact ⟨o, e, fun v q => by rw [d] at q; cases q⟩
  | false => obtain ⟨o, e, _, d⟩ := x; exact ⟨o, e, fun v q => by rw [d] at q; cases q⟩
theorem srcIs_lt {h : Heap} {items : Array Value} (x : SrcIs k h a items) : a < h.objs.size := by
  cases k with
  | true => obtain ⟨o, e, _⟩ := x; exact Heap.lt_size e
  | false => obtain ⟨o, e, _⟩ := x; exact Heap.lt_size e
theorem src_draws {prog : Program} {w : World} {A : Around} (hh : A.handled = none) (it l : Addr) (hne : l ≠ it) (items : Array Value) :
    Draws prog w A it [it, l] items.size (fun i v => items[i]? = some v) (fun i h => SrcIt k h it l i ∧ SrcIs k h l items) := by
  cases k with
  | true => exact Draws.list hh it l hne items
  | false => exact Draws.tuple hh it l hne items
theorem src_begins (l : Addr) (items : Array Value) : Begins (.ref l) (srcObj k l) fun h => SrcIs k h l items := by
  cases k with
  | true => exact begins_list l items
  | false => exact begins_tuple l items
theorem srcIt_new {h : Heap} (e : h.get? it = some (srcObj k a)) : SrcIt k h it a 0 := by
  cases k with
  | true => exact ⟨_, e, rfl, rfl⟩
  | false => exact ⟨_, e, rfl, rfl⟩
end

/-! enumerate(v) -/
set_option maxHeartbeats 1000000 in
theorem meets_enum1 {v : Value} {o : Obj} {H : Heap → Prop} (B : Begins v o H) :
    Meets (Builtin.«enumerate.__new__» ⟨[.type "enumerate", v], []⟩) (fun _ R s => H s.heap ∧
      R (.ok (.ret (.ref (s.heap.push o).objs.size))) { s with heap := (s.heap.push o).push { cls := .type "enumerate", data := .fields #[.none, .bool false, .ref s.heap.objs.size, rawInt 0, .none, .none] } }) :=
  .of_wp fun prog w A R s h => by
    obtain ⟨hp, g, d, tk, os⟩ := s; obtain ⟨h1, h⟩ := h
    have hsub := sub_enumerate
    have q1 : ∀ {A' : Around} {E : Value → Shared → Prop} {Q : Value → Shared → Prop}, Q (.ref hp.objs.size) ⟨hp.push o, g, d, tk, os⟩ → wpAny (model prog w) A' (pyIter v) Q E ⟨hp, g, d, tk, os⟩ :=
      fun q => B.iter prog w _ _ ⟨hp, g, d, tk, os⟩ _ h1 q
    wp_walk using q1
    refine wpAny_stack_any fun st => wpAny_pure ?_
    split
    · rename_i c _ _ _ _ _
      cases (c == Value.type "enumerate")
      · wp_walk using q1
        exact ⟨_, rfl, h⟩
      · wp_walk using q1
        exact ⟨_, rfl, h⟩
    · wp_walk using q1
      exact ⟨_, rfl, h⟩
section
variable {prog : Program} {w : World} {A : Around} {E : Value → Shared → Prop} {s : Shared}
theorem enum_begins1 {v : Value} {o : Obj} {H : Heap → Prop} {Q : Value → Shared → Prop} (B : Begins v o H) (h1 : H s.heap)
    (h : ∀ h', IsEnum h' (s.heap.objs.size + 1) s.heap.objs.size 0 .none → h'.get? s.heap.objs.size = some o → h'.objs.size = s.heap.objs.size + 2 →
      (∀ b o, s.heap.get? b = some o → h'.get? b = some o) → Q (.ref (s.heap.objs.size + 1)) { s with heap := h' }) :
    wpAny (model prog w) A (call (.type "enumerate") [v]) Q E s := by
  refine callType_new F.called_enumerate (by decide) (F.typeCall_enumerate_1 _) (F.newCall_enumerate_1 _) (fun obj => F.args_object_init_2 obj _) F.entry_enumerate_new
    (meets_enum1 B) ⟨h1, ?_⟩
  have hz : (s.heap.push o).objs.size = s.heap.objs.size + 1 := Heap.size_push ..
  show _ ∧ _
  rw [hz]
  have he : IsEnum ((s.heap.push o).push { cls := .type "enumerate", data := .fields #[.none, .bool false, .ref s.heap.objs.size, rawInt 0, .none, .none] }) (s.heap.objs.size + 1) s.heap.objs.size 0 .none := by
    have := Heap.get?_push_size (s.heap.push o) (o := { cls := .type "enumerate", data := .fields #[.none, .bool false, .ref s.heap.objs.size, rawInt 0, .none, .none] }) rfl
    rw [hz] at this; exact this
  refine ⟨⟨_, he, rfl⟩, h _ he (Heap.get?_push_of_some _ (Heap.get?_push_size _ B.free)) (by rw [Heap.size_push, hz]) fun b o x => Heap.get?_push_of_some _ (Heap.get?_push_of_some _ x)⟩
end

def IteG (k : Bool) (K : PySem.W.Frag) (a : Addr) : It :=
  ⟨fun i H => ∃ (xs : List V) (x : V), Sq k K H a xs ∧ xs[i]? = some x, fun i H v H' => ∃ T x, v = .ref T ∧ H T = none ∧ H' = upd H T (.tup [.int (i : Nat), x]) ∧ ∀ xs, Sq k K H a xs → xs[i]? = some x, fun i H => ∃ xs : List V, Sq k K H a xs ∧ xs.length = i⟩
theorem turn_enumG {P : Program} {w : World} {K : PySem.W.Frag} {k : Bool} {elts : List Expr} {kk : Nat} {tpos : Pos} (a e it : Addr) (ha : a ≠ it) (hae : a ≠ e) :
    Turn P w K (.Tuple elts kk tpos) (IteG k K a) [e, it] e (fun i h => (∃ old, IsEnum h e it ((i : Nat) : Int) old) ∧ SrcIt k h it a i ∧ e ≠ it) where
  mem := by simp
  obj := fun i h st b hb => by
    obtain ⟨⟨old, he⟩, hi, _⟩ := st
    have e' : b = e ∨ b = it := by simpa using hb
    rcases e' with z | z
    · rw [z]; exact ⟨_, he, fun v q => nomatch q⟩
    · rw [z]; exact srcIt_obj hi
  keep := fun i h h' st k => let ⟨⟨old, he⟩, hi, hne⟩ := st; ⟨⟨old, k e (by simp) _ he⟩, srcIt_at hi fun o q => k it (by simp) o q, hne⟩
  item := by
    intro X hP hw hK hc i pins s σ H E I hf st hg
    subst hP hw hK
    obtain ⟨⟨old, he⟩, hit, hne⟩ := st
    obtain ⟨xs, x, hq, hx⟩ := hg
    obtain ⟨its, rv, p, hz⟩ := sq_is I hq
    obtain ⟨u, hu, ru⟩ := rv.get hx
    have hel : e < s.heap.objs.size := Heap.lt_size he
    have hil : it < s.heap.objs.size := by obtain ⟨_, q, _⟩ := srcIt_obj hit; exact Heap.lt_size q
    have hlen : i < its.toArray.size := by
      have := (List.getElem?_eq_some_iff.mp hu).1
      simpa using this
    have D := src_draws (k := k) (prog := X.prog) (w := X.w) (A := X.A.in1) (show X.A.in1.handled = none from I.ok.hd hc) it a ha its.toArray
    refine wpAny_pyNext_enum_itemD D he ⟨hit, p⟩ hlen hne (by simp; exact ⟨hne, Ne.symm hae⟩) fun y h' tk hy ho hit' hT hsz hk => ?_
    have ey : y = u := by
      have hu' : its.toArray[i]? = some u := by simpa using hu
      rw [hu'] at hy
      exact (Option.some.inj hy).symm
    subst ey
    refine ⟨_, rfl, wpAny_letOwnedTupleGo_enum (s := { s with heap := h', toks := tk + 1 }) ho fun h'' he' sb => ?_⟩
    have hT2 : h''.get? s.heap.objs.size = some { cls := .type "tuple", data := .seq #[.int i tk, y] } := (sb.2 _ (Nat.ne_of_gt hel)).trans hT
    have new : ObjOk X.prog X.w (upd H s.heap.objs.size (.tup [.int (i : Nat), x])) h'' s.heap.objs.size (.tup [.int (i : Nat), x]) :=
      ⟨by show 2 ≤ sizeLine; decide, [.int i tk, y], .cons ⟨_, rfl⟩ (.cons ru .nil), ⟨_, hT2, rfl, _, rfl⟩⟩
    have I1 : Inv X pins σ (upd H s.heap.objs.size (.tup [.int (i : Nat), x])) { s with heap := h'', toks := tk + 1 } :=
      I.turnedNew (ch := [e, it]) (fun b ob hb q => (sb.2 b (fun z => hb (by simp [z]))).trans (hk b ob (fun z => hb (by simp [z])) (fun z => hb (by simp [z])) q)) hf (Nat.le_refl _) new
    refine ⟨.ref s.heap.objs.size, _, I1, rfl, ⟨_, x, rfl, I.hok.fresh (Nat.le_refl _), rfl, fun ys hy => by rw [sq_inj I hy hq]; exact hx⟩, ⟨⟨y, ?_⟩, srcIt_at hit'.1 fun o q => (sb.2 it (Ne.symm hne)).trans q, hne⟩, fun b hb => ?_⟩
    · have e1 : ((i + 1 : Nat) : Int) = (i : Int) + 1 := by omega
      rw [e1]; exact he'
    · have hb' : b < s.heap.objs.size := by
        have e' : b = e ∨ b = it := by simpa using hb
        rcases e' with z | z
        · rw [z]; exact hel
        · rw [z]; exact hil
      rw [upd_ne (Nat.ne_of_lt hb')]
      exact (hf b hb).1
  done := by
    intro X hP hw hK hc i pins s σ H E I hf st hg
    subst hP hw hK
    obtain ⟨⟨old, he⟩, hit, hne⟩ := st
    obtain ⟨xs, hq, hx⟩ := hg
    obtain ⟨its, rv, p, hz⟩ := sq_is I hq
    obtain ⟨f0, f1, f2, f3, f4, f5⟩ := hf it (by simp)
    have hl := rv.length
    have D := src_draws (k := k) (prog := X.prog) (w := X.w) (A := X.A.in1) (show X.A.in1.handled = none from I.ok.hd hc) it a ha its.toArray
    have hsz : its.toArray.size = i := by simp; omega
    refine wpAny_pyNext_enum_endD D he (by rw [hsz]; exact ⟨hit, p⟩) fun h' eb => ⟨rfl, I.turned (t' := s.toks) (fun b o hb q => eb b o hb q) f0 f1 f3 f4 f5⟩
  self := fun A i s Q E st h => let ⟨⟨_, he⟩, _⟩ := st; wpAny_pyIter_enum he h
def iEnumG (K : PySem.W.Frag) (ta : TA) : TI := fun σ H R => ta σ H fun vs H1 => ∃ k a xs, vs = [.ref a] ∧ Sq k K H1 a xs ∧ R (IteG k K a) H1
theorem pi_enumG {X : Cx} {e : Expr} {ta : TA} {p pos tpos : Pos} {elts : List Expr} {kk : Nat} (hg : Gl X "enumerate") (hm : X.mg "enumerate" = none) (ha : PA X [e] ta) (hs : starEach [e] X.env = [(false, eval e X.env)]) :
    PI X (.Tuple elts kk tpos) (.Call (.Name "enumerate" p) [e] [] pos) (iEnumG X.K ta) := by
  refine ⟨fun pins s σ H R I h => ?_⟩
  refine Call_ (ld_blt I hg hm boot_enumerate (PyProof.Rows.callWith_type1 (thn (ha.run pos pins s σ H _ I h) fun us s1 ⟨vs, H1, I1, r1, q1⟩ => ?_) hs rfl))
  obtain ⟨k, a, xs, ex, hq, q⟩ := q1
  subst ex
  cases r1 with
  | cons r rr =>
    cases rr
    cases r
    obtain ⟨its, rv, p', hz⟩ := sq_is I1 hq
    have la := srcIs_lt p'
    refine enum_begins1 (src_begins (k := k) a its.toArray) p' fun h' he hit hsz hk => wpAny_pyIter_enum he ?_
    have I2 : Inv X pins σ H1 { s1 with heap := h' } := I1.kept (t' := s1.toks) hk
    refine ⟨s1.heap.objs.size + 1, [s1.heap.objs.size + 1, s1.heap.objs.size], _, _, H1, rfl, I2, turn_enumG a (s1.heap.objs.size + 1) s1.heap.objs.size (Nat.ne_of_lt la) (Nat.ne_of_lt (Nat.lt_succ_of_lt la)), ⟨⟨.none, he⟩, srcIt_new hit, Nat.succ_ne_self _⟩, fun b hb => ?_, q⟩
    have e' : b = s1.heap.objs.size + 1 ∨ b = s1.heap.objs.size := by simpa using hb
    have hle : s1.heap.objs.size ≤ b := by
      rcases e' with z | z
      · rw [z]; exact Nat.le_add_right _ _
      · rw [z]; exact Nat.le_refl _
    exact I1.fpOk hle (I1.hok.fresh hle)

/-! zip(v1, v2) -/
def ItzG (k1 k2 : Bool) (K : PySem.W.Frag) (a b : Addr) : It :=
  ⟨fun i H => ∃ (xs ys : List V) (x y : V), Sq k1 K H a xs ∧ Sq k2 K H b ys ∧ xs[i]? = some x ∧ ys[i]? = some y,
    fun i H v H' => ∃ T x y, v = .ref T ∧ H T = none ∧ H' = upd H T (.tup [x, y]) ∧ (∀ xs, Sq k1 K H a xs → xs[i]? = some x) ∧ ∀ ys, Sq k2 K H b ys → ys[i]? = some y,
    fun i H => ∃ xs ys : List V, Sq k1 K H a xs ∧ Sq k2 K H b ys ∧ i = min xs.length ys.length⟩
structure Apart2 (z TI TO i1 i2 a b : Addr) : Prop where
  S : ZipSep2 z TI TO i1 i2 [i1, a] [i2, b]
  ne1 : a ≠ i1
  ne2 : b ≠ i2
theorem apart2 {n a b : Nat} (ha : a < n) (hb : b < n) : Apart2 (n + 4) (n + 2) (n + 3) n (n + 1) a b := by
  have e : ∀ {m : Nat} {l : List Nat}, (∀ x ∈ l, m ≠ x) → m ∉ l := fun h hm => h _ hm rfl
  refine ⟨⟨?_, ?_, ?_, ?_, ?_, ?_, ?_, ?_, ?_, ?_, ?_, ?_, ?_⟩, ?_, ?_⟩
  case refine_5 => exact List.mem_cons_self
  case refine_9 => exact List.mem_cons_self
  all_goals first
    | exact Nat.ne_of_lt (by omega)
    | exact Nat.ne_of_gt (by omega)
    | (refine e fun x hx => ?_
       have hx' := List.mem_cons.mp hx
       rcases hx' with h | h
       · omega
       · have := List.mem_singleton.mp h
         omega)
theorem turn_zipG {P : Program} {w : World} {K : PySem.W.Frag} {k1 k2 : Bool} {elts : List Expr} {kk : Nat} {tpos : Pos} {a b z TI TO i1 i2 : Addr} (D : Apart2 z TI TO i1 i2 a b) :
    Turn P w K (.Tuple elts kk tpos) (ItzG k1 k2 K a b) [z, TI, TO, i1, i2] z (fun i h => IsZip h z TI TO .none ∧ IsTupOf2 h TI (.ref i1) (.ref i2) ∧ (∃ x y, IsTupOf2 h TO x y) ∧ SrcIt k1 h i1 a i ∧ SrcIt k2 h i2 b i) where
  mem := by simp
  obj := fun i h st c hc => by
    obtain ⟨hz, hTI, ⟨x, y, hTO⟩, h1, h2⟩ := st
    have e' : c = z ∨ c = TI ∨ c = TO ∨ c = i1 ∨ c = i2 := by simpa using hc
    rcases e' with q | q | q | q | q
    · rw [q]; exact ⟨_, hz, fun v q => nomatch q⟩
    · rw [q]; exact ⟨_, hTI, fun v q => nomatch q⟩
    · rw [q]; exact ⟨_, hTO, fun v q => nomatch q⟩
    · rw [q]; exact srcIt_obj h1
    · rw [q]; exact srcIt_obj h2
  keep := fun i h h' st k => by
    obtain ⟨hz, hTI, ⟨x, y, hTO⟩, h1, h2⟩ := st
    exact ⟨k z (by simp) _ hz, k TI (by simp) _ hTI, ⟨x, y, k TO (by simp) _ hTO⟩, srcIt_at h1 fun o q => k i1 (by simp) o q, srcIt_at h2 fun o q => k i2 (by simp) o q⟩
  item := by
    intro X hP hw hK hc i pins s σ H E I hf st hg
    subst hP hw hK
    obtain ⟨hz, hTI, ⟨x0, y0, hTO⟩, h1, h2⟩ := st
    obtain ⟨xs, ys, x, y, hqx, hqy, hx, hy⟩ := hg
    obtain ⟨its, rv, p, _⟩ := sq_is I hqx
    obtain ⟨its2, rv2, p2, _⟩ := sq_is I hqy
    obtain ⟨u, hu, ru⟩ := rv.get hx
    obtain ⟨u2, hu2, ru2⟩ := rv2.get hy
    have hzl : z < s.heap.objs.size := Heap.lt_size hz
    have hh : X.A.in1.handled = none := I.ok.hd hc
    have D1 := src_draws (k := k1) (prog := X.prog) (w := X.w) (A := X.A.in1) hh i1 a D.ne1 its.toArray
    have D2 := src_draws (k := k2) (prog := X.prog) (w := X.w) (A := X.A.in1) hh i2 b D.ne2 its2.toArray
    have l1 : i < its.toArray.size := by
      have := (List.getElem?_eq_some_iff.mp hu).1
      simpa using this
    have l2 : i < its2.toArray.size := by
      have := (List.getElem?_eq_some_iff.mp hu2).1
      simpa using this
    refine wpAny_pyNext_zipD2_item D.S D1 D2 hz hTI hTO ⟨h1, p⟩ ⟨h2, p2⟩ l1 l2 fun y1 y2 h' tk q1 q2 z' TO' st1 st2 hT hsz hk => ?_
    have e1 : y1 = u := by
      have hu' : its.toArray[i]? = some u := by simpa using hu
      rw [hu'] at q1
      exact (Option.some.inj q1).symm
    have e2 : y2 = u2 := by
      have hu' : its2.toArray[i]? = some u2 := by simpa using hu2
      rw [hu'] at q2
      exact (Option.some.inj q2).symm
    subst e1 e2
    refine ⟨_, rfl, wpAny_letOwnedTupleGo_zip (s := { s with heap := h', toks := tk }) z' fun h'' z'' sb => ?_⟩
    have hT2 : h''.get? s.heap.objs.size = some { cls := .type "tuple", data := .seq #[y1, y2] } := (sb.2 _ (Nat.ne_of_gt hzl)).trans hT
    have new : ObjOk X.prog X.w (upd H s.heap.objs.size (.tup [x, y])) h'' s.heap.objs.size (.tup [x, y]) :=
      ⟨by show 2 ≤ sizeLine; decide, [y1, y2], .cons ru (.cons ru2 .nil), ⟨_, hT2, rfl, _, rfl⟩⟩
    have I1 : Inv X pins σ (upd H s.heap.objs.size (.tup [x, y])) { s with heap := h'', toks := tk } :=
      I.turnedNew (t' := tk) (ch := [z, TI, TO, i1, i2]) (fun c o hb q => (sb.2 c (fun q' => hb (by simp [q']))).trans (hk c o (fun q' => hb (by simp [q'])) (fun q' => hb (by simp [q'])) (fun q' => hb (by simp [q'])) (fun q' => hb (by simp [q'])) q)) hf (Nat.le_refl _) new
    refine ⟨.ref s.heap.objs.size, _, I1, rfl, ⟨_, x, y, rfl, I.hok.fresh (Nat.le_refl _), rfl, fun l hl => by rw [sq_inj I hl hqx]; exact hx, fun l hl => by rw [sq_inj I hl hqy]; exact hy⟩, ⟨z'', ?_, ⟨y1, y2, ?_⟩, ?_, ?_⟩, fun c hcm => ?_⟩
    · exact (sb.2 _ D.S.TIz).trans (hk _ _ D.S.TIz D.S.TITO D.S.TIi1 D.S.TIi2 hTI)
    · exact (sb.2 _ D.S.TOz).trans TO'
    · exact srcIt_at st1.1 fun o q => (sb.2 _ (Ne.symm D.S.zi1)).trans q
    · exact srcIt_at st2.1 fun o q => (sb.2 _ (Ne.symm D.S.zi2)).trans q
    · have hlt : c < s.heap.objs.size := by
        have e' : c = z ∨ c = TI ∨ c = TO ∨ c = i1 ∨ c = i2 := by simpa using hcm
        rcases e' with q | q | q | q | q
        · rw [q]; exact hzl
        · rw [q]; exact Heap.lt_size hTI
        · rw [q]; exact Heap.lt_size hTO
        · rw [q]; obtain ⟨_, e1, _⟩ := srcIt_obj h1; exact Heap.lt_size e1
        · rw [q]; obtain ⟨_, e2, _⟩ := srcIt_obj h2; exact Heap.lt_size e2
      rw [upd_ne (Nat.ne_of_lt hlt)]
      exact (hf c hcm).1
  done := by
    intro X hP hw hK hc i pins s σ H E I hf st hg
    subst hP hw hK
    obtain ⟨hz, hTI, ⟨x0, y0, hTO⟩, h1, h2⟩ := st
    obtain ⟨xs, ys, hqx, hqy, hend⟩ := hg
    obtain ⟨its, rv, p, _⟩ := sq_is I hqx
    obtain ⟨its2, rv2, p2, _⟩ := sq_is I hqy
    have l1 := rv.length
    have l2 := rv2.length
    have hh : X.A.in1.handled = none := I.ok.hd hc
    have D1 := src_draws (k := k1) (prog := X.prog) (w := X.w) (A := X.A.in1) hh i1 a D.ne1 its.toArray
    have D2 := src_draws (k := k2) (prog := X.prog) (w := X.w) (A := X.A.in1) hh i2 b D.ne2 its2.toArray
    refine wpAny_pyNext_zipD2_end D.S D1 D2 hz hTI hTO ⟨h1, p⟩ ⟨h2, p2⟩ (by simp; omega) (by simp; omega) (by simp; omega) fun h' tk hk => ⟨rfl, I.turnedL (t' := tk) (ch := [z, TI, TO, i1, i2]) (fun c o hb q =>
      hk c o (fun q' => hb (by simp [q'])) (fun q' => hb (by simp [q'])) (fun q' => hb (by simp [q'])) (fun q' => hb (by simp [q'])) q) hf⟩
  self := fun A i s Q E st h => wpAny_pyIter_zip st.1 h
def iZipG (K : PySem.W.Frag) (ta : TA) : TI := fun σ H R => ta σ H fun vs H1 => ∃ k1 k2 a b xs ys, vs = [.ref a, .ref b] ∧ Sq k1 K H1 a xs ∧ Sq k2 K H1 b ys ∧ R (ItzG k1 k2 K a b) H1
theorem pi_zipG {X : Cx} {e e2 : Expr} {ta : TA} {p pos tpos : Pos} {elts : List Expr} {kk : Nat} (hg : Gl X "zip") (hm : X.mg "zip" = none) (ha : PA X [e, e2] ta)
    (hs : starEach [e, e2] X.env = (false, eval e X.env) :: starEach [e2] X.env) (hpl : (backTo pos (starEach [e2] X.env)).any (·.1) = false) :
    PI X (.Tuple elts kk tpos) (.Call (.Name "zip" p) [e, e2] [] pos) (iZipG X.K ta) := by
  refine ⟨fun pins s σ H R I h => ?_⟩
  refine Call_ (ld_blt I hg hm PyProof.Rows.boot_zip (PyProof.Rows.callWith_type1 (thn (ha.run pos pins s σ H _ I h) fun us s1 ⟨vs, H1, I1, r1, q1⟩ => ?_) hs hpl))
  obtain ⟨k1, k2, a, b, xs, ys, ex, hqx, hqy, q⟩ := q1
  subst ex
  cases r1 with
  | cons r rr =>
    cases rr with
    | cons r' rr =>
      cases rr
      cases r
      cases r'
      obtain ⟨its, rv, p1, _⟩ := sq_is I1 hqx
      obtain ⟨its2, rv2, p2, _⟩ := sq_is I1 hqy
      have la := srcIs_lt p1
      have lb := srcIs_lt p2
      refine zip_begins2 (src_begins (k := k1) a its.toArray) (src_begins (k := k2) b its2.toArray) p1 p2 fun h' hz hTI hTO h1 h2 hsz hk => wpAny_pyIter_zip hz ?_
      have I2 : Inv X pins σ H1 { s1 with heap := h' } := I1.kept (t' := s1.toks) hk
      refine ⟨s1.heap.objs.size + 4, [s1.heap.objs.size + 4, s1.heap.objs.size + 2, s1.heap.objs.size + 3, s1.heap.objs.size, s1.heap.objs.size + 1], _, _, H1, rfl, I2, turn_zipG (apart2 la lb), ⟨hz, hTI, ⟨_, _, hTO⟩, srcIt_new h1, srcIt_new h2⟩, fun c hcm => ?_, q⟩
      have e' : c = s1.heap.objs.size + 4 ∨ c = s1.heap.objs.size + 2 ∨ c = s1.heap.objs.size + 3 ∨ c = s1.heap.objs.size ∨ c = s1.heap.objs.size + 1 := by simpa using hcm
      have hle : s1.heap.objs.size ≤ c := by
        rcases e' with z | z | z | z | z
        · rw [z]; exact Nat.le_add_right _ _
        · rw [z]; exact Nat.le_add_right _ _
        · rw [z]; exact Nat.le_add_right _ _
        · rw [z]; exact Nat.le_refl _
        · rw [z]; exact Nat.le_add_right _ _
      exact I1.fpOk hle (I1.hok.fresh hle)
end Mn

/-! Mini: library rules that were lacking: tuple[::-1], tuple * 0, tuple * 1. -/
namespace Mn
open PySem PySem.Spec PyProof.Rows L2 HT
section
variable {prog : Program} {w : World} {A : Around} {E : Value → Shared → Prop} {s : Shared}
theorem sliceApplied_rev {sl : Addr} {vs : Value} {n : Nat} {Q : Int × Int × Nat → Shared → Prop} (hs : s.heap.IsSliceOf sl .none .none vs) (ps : IsPart vs (some (-1)))
    (h : Q ((n : Int) - 1, -1, n) s) : wpAny (model prog w) A (Builtin.Slice.sliceApplied (.ref sl) (pure (n : Int))) Q E s := by
  obtain ⟨os, hos, hcs, hds⟩ := id hs
  unfold Builtin.Slice.sliceApplied Builtin.Slice.sliceFields
  refine wpAny_bind (wpAny_bind (wpAny_field hos hds (x := .none) rfl (wpAny_bind (wpAny_field hos hds (x := .none) rfl (wpAny_bind (wpAny_field hos hds (x := vs) rfl (wpAny_pure ?_)))))))
  refine wpAny_bind (slicePart_ ps ?_)
  show wpAny _ _ (if ((-1 : Int) == 0) = true then _ else _) _ _ s
  rw [if_neg (by decide)]
  refine wpAny_bind (slicePart_none (wpAny_bind (slicePart_none (wpAny_bind (wpAny_pure ?_)))))
  have e : (Builtin.Slice.sliceAdjust none none (-1) (n : Int)) = ((n : Int) - 1, -1) := rfl
  show wpAny _ _ (match Builtin.Slice.sliceAdjust none none (-1) (n : Int) with | (lo, hi) => pure (lo, (-1 : Int), Builtin.Slice.slicePlaces lo hi (-1))) _ _ s
  rw [e]
  show wpAny _ _ (pure ((n : Int) - 1, (-1 : Int), Builtin.Slice.slicePlaces ((n : Int) - 1) (-1) (-1))) _ _ s
  have e2 : Builtin.Slice.slicePlaces ((n : Int) - 1) (-1) (-1) = n := by
    unfold Builtin.Slice.slicePlaces
    rw [if_neg (by decide)]
    by_cases h0 : n = 0
    · subst h0; rfl
    · rw [if_pos (by omega)]
      have : ((n : Int) - 1 - -1 - 1) / (- -1) = (n : Int) - 1 := by
        have : ((n : Int) - 1 - -1 - 1) = (n : Int) - 1 := by omega
        rw [this]
        exact Int.ediv_one _
      rw [this]
      omega
  rw [e2]
  exact wpAny_pure h
theorem pick_rev (xs : Array Value) : ((List.range xs.size).filterMap fun (m : Nat) => xs[((xs.size : Int) - 1 + (m : Int) * -1).toNat]?).toArray = xs.toList.reverse.toArray := by
  congr 1
  apply List.ext_getElem?
  intro i
  have e : ∀ k, k ≤ xs.size → ((List.range k).filterMap fun (m : Nat) => xs[((xs.size : Int) - 1 + (m : Int) * -1).toNat]?) = xs.toList.reverse.take k := by
    intro k
    induction k with
    | zero => intro _; simp
    | succ k ih =>
      intro hk
      rw [List.range_succ, List.filterMap_append, ih (by omega)]
      have h1 : ((xs.size : Int) - 1 + (k : Int) * -1).toNat = xs.size - 1 - k := by omega
      have h2 : xs.toList.reverse[k]? = xs[xs.size - 1 - k]? := by
        rw [List.getElem?_reverse (by simp; omega)]
        simp
      rw [List.take_succ, h2]
      simp only [List.filterMap_cons, List.filterMap_nil]
      rw [h1]
      cases xs[xs.size - 1 - k]? <;> rfl
  rw [e xs.size (Nat.le_refl _), List.take_of_length_le (by simp)]
theorem getItem_tuple_rev {t sl : Addr} {items : Array Value} {vs : Value} {Q : Value → Shared → Prop} (ht : IsTup s.heap t items) (hs : s.heap.IsSliceOf sl .none .none vs) (ps : IsPart vs (some (-1)))
    (h : Q (.ref s.heap.objs.size) { s with heap := s.heap.push { cls := .type "tuple", data := .seq items.toList.reverse.toArray } })
    (hsz : items.size ≤ sizeLine) : wpAny (model prog w) A (getItem (.ref t) (.ref sl)) Q E s := by
  have htake : sizeOk (.seq items.toList.reverse.toArray) := by
    show items.toList.reverse.toArray.size ≤ sizeLine
    rw [List.size_toArray, List.length_reverse, Array.length_toList]
    exact hsz
  obtain ⟨os, hos, hcs, hds⟩ := id hs
  have hTs : s.TypeIs (.ref sl) "slice" := ⟨os, hos, hcs⟩
  unfold getItem
  try with_reducible refine wpAny_holding ?_
  first | refine wpAny_bind (wpAny_pure ?_) | skip
  refine wpAny_bind (wpAny_sequenceKey ht.typeIs (by decide) ?_)
  refine wpAny_bind (wpAny_callSpecial?_slot (name := Str.ofString "__getitem__") ht.typeIs PyProof.Rows.slot_tuple_getitem
    (wpAny_call_entry PyProof.Rows.slot_tuple_getitem ht.typeIs entry_tuple_getitem ?_ (args_tuple_getitem _ _)))
  show wpAny _ _ (Builtin.Tuple.tupleItemsOf (.ref t) >>= _) _ _ s
  refine wpAny_bind (tupleItemsOf_ ht ?_)
  refine wpAny_bind (wpAny_typeOf hTs ?_)
  rw [if_pos (by decide)]
  refine wpAny_bind (sliceApplied_rev hs ps ?_)
  show wpAny _ _ (if (((items.size : Int) - 1) == 0 && (-1 : Int) == 1 && items.size == items.size) = true then _ else _) _ _ s
  rw [if_neg (by simp), pick_rev]
  first
    | exact wpAny_bind (m := Builtin.Tuple.tupleExact _) (wpAny_newObj_type (wpAny_pure ⟨_, rfl, wpAny_pure h⟩) htake)
    | exact wpAny_bind (m := Builtin.Tuple.tupleExact _) (wpAny_newObj_type (wpAny_bind (wpAny_pure (wpAny_pure ⟨_, rfl, wpAny_pure h⟩))) htake)
    | exact wpAny_bind (wpAny_bind (m := Builtin.Tuple.tupleExact _) (wpAny_newObj_type (wpAny_pure (wpAny_pure ⟨_, rfl, wpAny_pure h⟩)) htake))
    | exact wpAny_bind (wpAny_bind (m := Builtin.Tuple.tupleExact _) (wpAny_newObj_type (wpAny_pure ⟨_, rfl, wpAny_pure h⟩) htake))
end
theorem tuple_mul1 (l : Addr) (items : Array Value) (n : Nat) (dd : Option Addr) (sl : Array (Option Value)) (u : Tok) :
    Meets (Builtin.«tuple.__mul__» ⟨[.ref l, .int 1 u], []⟩) (fun _ R s => s.heap.get? l = some { cls := .type "tuple", dict := dd, data := .seq items n, slots := sl } ∧
      R (.ok (.ret (Value.ref l))) s) :=
  .of_wp fun prog w A R s h => by
    obtain ⟨hp, g, d, tk, os⟩ := s
    obtain ⟨hl, h⟩ := h
    have f1 := AutoSeq1.idx_int
    wp_walk using wpAny_loadPart' hl
    repeat (first
      | (refine wpAny_ite_true (by simp) ?_; wp_walk using wpAny_loadPart' hl)
      | (refine wpAny_ite_false (by simp) ?_; wp_walk using wpAny_loadPart' hl))
    exact ⟨_, rfl, h⟩
theorem tuple_mul0 (l : Addr) (items : Array Value) (n : Nat) (dd : Option Addr) (sl : Array (Option Value)) (u : Tok) :
    Meets (Builtin.«tuple.__mul__» ⟨[.ref l, .int 0 u], []⟩) (fun _ R s => (s.heap.get? l = some { cls := .type "tuple", dict := dd, data := .seq items n, slots := sl } ∧ items.isEmpty = false) ∧
      R (.ok (.ret (Value.ref s.heap.objs.size))) { s with heap := s.heap.push { cls := Value.type "tuple", data := Data.seq #[] }, toks := s.toks }) :=
  .of_wp fun prog w A R s h => by
    obtain ⟨hp, g, d, tk, os⟩ := s
    obtain ⟨⟨hl, hi⟩, h⟩ := h
    have f1 := AutoSeq1.idx_int
    wp_walk using wpAny_loadPart' hl
    exact ⟨_, rfl, h⟩
section
variable {X : Cx}
def rRepT1 (K : PySem.W.Frag) : R2 := fun x y H Q => ∃ l xs, x = .ref l ∧ y = .int 1 ∧ SqT K H l xs ∧ Q (.ref l) H
theorem op_repT1 : OpR X (binaryOp .Mult) (rRepT1 X.K) := by
  intro pins s σ H x y v u Q I rx ry h
  obtain ⟨l, xs, rfl, rfl, hT, q⟩ := h
  cases rx
  obtain ⟨t, rfl⟩ := ry
  obtain ⟨its, r, ⟨⟨cls, dd, data, sl⟩, ho, hc, n, hd⟩, hs⟩ := I.tuple hT
  simp only at hc hd
  subst hc hd
  refine wpAny_binaryOp_repeat_ref (T := "tuple") (U := "int") (by decide) ⟨_, ho, rfl⟩ (fun s' => typeIs_int s' 1 t) noFill_tuple_mul F.fills_int_mul F.slot_int_rmul repeat_tuple F.slot_int_index.lookup
    (call_meets F.slot_int_rmul (typeIs_int s 1 t) F.entry_int_rmul (F.args_int_rmul_2 _ _) (int_rmul_tuple 1 t l its.toArray n dd sl)
      ⟨ho, rfl, ⟨_, ho, rfl⟩, call_meets F.slot_tuple_mul ⟨_, ho, rfl⟩ F.entry_tuple_mul (F.args_tuple_mul_2 _ _) (tuple_mul1 l its.toArray n dd sl t) ⟨ho, ?_⟩⟩)
  exact ⟨.ref l, H, I, rfl, q⟩
def rRepT0 (K : PySem.W.Frag) : R2 := fun x y H Q => ∃ l xs, x = .ref l ∧ y = .int 0 ∧ SqT K H l xs ∧ xs ≠ [] ∧ ∀ p, H p = none → Q (.ref p) (upd H p (.tup []))
theorem op_repT0 : OpR X (binaryOp .Mult) (rRepT0 X.K) := by
  intro pins s σ H x y v u Q I rx ry h
  obtain ⟨l, xs, rfl, rfl, hT, hne, q⟩ := h
  cases rx
  obtain ⟨t, rfl⟩ := ry
  obtain ⟨its, r, ⟨⟨cls, dd, data, sl⟩, ho, hc, n, hd⟩, hs⟩ := I.tuple hT
  simp only at hc hd
  subst hc hd
  have hi : its.toArray.isEmpty = false := by
    cases its with
    | nil => cases r; exact absurd rfl hne
    | cons a b => rfl
  refine wpAny_binaryOp_repeat_ref (T := "tuple") (U := "int") (by decide) ⟨_, ho, rfl⟩ (fun s' => typeIs_int s' 0 t) noFill_tuple_mul F.fills_int_mul F.slot_int_rmul repeat_tuple F.slot_int_index.lookup
    (call_meets F.slot_int_rmul (typeIs_int s 0 t) F.entry_int_rmul (F.args_int_rmul_2 _ _) (int_rmul_tuple 0 t l its.toArray n dd sl)
      ⟨ho, rfl, ⟨_, ho, rfl⟩, call_meets F.slot_tuple_mul ⟨_, ho, rfl⟩ F.entry_tuple_mul (F.args_tuple_mul_2 _ _) (tuple_mul0 l its.toArray n dd sl t) ⟨⟨ho, hi⟩, ?_⟩⟩)
  refine ⟨.ref s.heap.objs.size, upd H s.heap.objs.size (.tup []), I.laid (t' := s.toks) (fun b u e => Heap.get?_push_of_some _ e) (Nat.le_refl _) ?_, rfl, q _ (I.hok.fresh (Nat.le_refl _))⟩
  exact ⟨Nat.zero_le _, [], .nil, ⟨_, Heap.get?_push_size _ rfl, rfl, _, rfl⟩⟩
end
end Mn

/-! Mini: the operations on data are what the hand layer's rules ask. -/
namespace Mn
open PySem PySem.Spec PyProof.Rows L2

theorem line_eq : line = sizeLine := by unfold line; rw [sizeLine_eq]

/-- what a result wants -/
def oR {α β : Type} (K : PySem.W.Frag) (cl : Nat → Addr) (B : List Nat) (R : Wd → α → β → Prop) (r : Res α) (w : Wd) (Xc : Nat → Hp → Prop) (Q : β → Hp → Prop) : Prop := match r with
  | .ok a S' => ∀ (w' : Wd) (x : β) (H' : Hp), w.le w' → R w' a x → HR K cl B w' H' S' → Q x H'
  | .exc c S' => ∀ (w' : Wd) (H' : Hp), w.le w' → HR K cl B w' H' S' → Xc c H'
  | .stuck => False
theorem oR.le {α β : Type} {K : PySem.W.Frag} {cl : Nat → Addr} {B : List Nat} {R : Wd → α → β → Prop} {r : Res α} {w w' : Wd} {Xc : Nat → Hp → Prop} {Q : β → Hp → Prop} (h : oR K cl B R r w Xc Q) (l : w.le w') : oR K cl B R r w' Xc Q := by
  cases r with
  | ok a S => exact fun w2 x H' l2 r hr => h w2 x H' (l.trans l2) r hr
  | exc c S => exact fun w2 H' l2 hr => h w2 H' (l.trans l2) hr
  | stuck => exact h
theorem oR.bind {α α' β β' : Type} {K : PySem.W.Frag} {cl : Nat → Addr} {B : List Nat} {R : Wd → α → β → Prop} {R' : Wd → α' → β' → Prop} {r : Res α} {k : α → Store → Res α'} {w : Wd} {Xc : Nat → Hp → Prop} {Q : β' → Hp → Prop}
    (h : oR K cl B R' (r.bind k) w Xc Q) : oR K cl B R r w Xc (fun x H' => ∃ w' a S', w.le w' ∧ R w' a x ∧ HR K cl B w' H' S' ∧ oR K cl B R' (k a S') w' Xc Q) := by
  cases r with
  | ok a S => exact fun w' x H' l r hr => ⟨w', a, S, l, r, hr, h.le l⟩
  | exc c S => exact h
  | stuck => exact h
theorem oR.imp {α β : Type} {K : PySem.W.Frag} {cl : Nat → Addr} {B : List Nat} {R : Wd → α → β → Prop} {r : Res α} {w : Wd} {Xc : Nat → Hp → Prop} {Q Q' : β → Hp → Prop} (h : oR K cl B R r w Xc Q) (q : ∀ x H, Q x H → Q' x H) : oR K cl B R r w Xc Q' := by
  cases r with
  | ok a S => exact fun w' x H' l r hr => q _ _ (h w' x H' l r hr)
  | exc c S => exact h
  | stuck => exact h

section
variable {X : Cx} {cl : Nat → Addr} {B : List Nat} {w : Wd} {H : Hp} {S : Store} {Xc : Nat → Hp → Prop}
theorem new_lst {m : Bool} {ds : List D} {vs : List V} {Q : VK} (h : HR X.K cl B w H S) (r : Reps X.K w ds vs) (q : oR X.K cl B (Rep X.K) (newL m ds S) w Xc Q) : vs.length ≤ sizeLine ∧ ∀ p, H p = none → Q (.ref p) (upd H p (.lst vs)) := by
  unfold newL at q
  split at q
  · rename_i hl
    refine ⟨by rw [r.length, ← line_eq]; exact hl, fun p hp => ?_⟩
    cases m with
    | true =>
      simp only [if_true] at q
      refine q ⟨w.I, w.μ ++ [p], w.F⟩ (.ref p) _ (w.le_cel p) ?_ (h.cell1 hp ⟨vs, upd_same, r.mono (w.le_cel p), h.nI hp⟩)
      simp only [Rep]
      exact ⟨p, rfl, by rw [← h.len]; simp⟩
    | false =>
      simp only [Bool.false_eq_true, if_false] at q
      have le := Wd.le_imm (q := (Kd.l, vs)) (h.nI hp)
      refine q _ (.ref p) _ le ?_ (h.imm1 .l hp upd_same)
      simp only [Rep]
      exact ⟨p, vs, rfl, if_pos rfl, r.mono le⟩
  · exact q.elim
theorem new_tup {ds : List D} {vs : List V} {Q : VK} (h : HR X.K cl B w H S) (r : Reps X.K w ds vs) (q : oR X.K cl B (Rep X.K) (Res.ok (.tup ds) S) w Xc Q) : ∀ p, H p = none → Q (.ref p) (upd H p (.tup vs)) := fun p hp => by
  have le := Wd.le_imm (q := (Kd.t, vs)) (h.nI hp)
  refine q _ (.ref p) _ le ?_ (h.imm1 .t hp upd_same)
  simp only [Rep]
  exact ⟨p, vs, rfl, if_pos rfl, r.mono le⟩
theorem new_tupT {ds : List D} {vs : List V} {Q : VK} (h : HR X.K cl B w H S) (r : Reps X.K w ds vs) (q : oR X.K cl B (Rep X.K) (newT ds S) w Xc Q) : vs.length ≤ sizeLine ∧ ∀ p, H p = none → Q (.ref p) (upd H p (.tup vs)) := by
  unfold newT at q
  split at q
  · rename_i hl
    exact ⟨by rw [r.length, ← line_eq]; exact hl, new_tup h r q⟩
  · exact q.elim
theorem lst_of {d : D} {ds : List D} {x : V} (h : HR X.K cl B w H S) (e : lstOf S d = some ds) (r : Rep X.K w d x) : ∃ a vs, x = .ref a ∧ H a = some (.lst vs) ∧ Reps X.K w ds vs := by
  unfold lstOf at e
  split at e
  · cases e
    simp only [Rep] at r
    obtain ⟨a, vs, rfl, i, q⟩ := r
    exact ⟨a, vs, rfl, h.sqL i, q⟩
  · rename_i n
    simp only [Rep] at r
    obtain ⟨a, rfl, i⟩ := r
    split at e
    · rename_i ds' hs
      cases e
      obtain ⟨vs, q1, q2, q3⟩ := h.cel _ _ _ i hs
      exact ⟨a, vs, rfl, q1, q2⟩
    · rename_i ds' hs
      cases e
      obtain ⟨vs, q1, q2⟩ := h.cel _ _ _ i hs
      exact ⟨a, vs, rfl, h.sqL q1, q2⟩
    · cases e
  · cases e
theorem seq_of {d : D} {k : Bool} {ds : List D} {x : V} (h : HR X.K cl B w H S) (e : seqOf S d = some (k, ds)) (r : Rep X.K w d x) : ∃ a vs, x = .ref a ∧ Sq k X.K H a vs ∧ Reps X.K w ds vs := by
  unfold seqOf at e
  split at e
  · cases e
    simp only [Rep] at r
    obtain ⟨a, vs, rfl, i, q⟩ := r
    exact ⟨a, vs, rfl, SqT.of (h.sqT i), q⟩
  · cases e
    simp only [Rep] at r
    obtain ⟨a, vs, rfl, i, q⟩ := r
    exact ⟨a, vs, rfl, SqL.of (h.sqL i), q⟩
  · cases e
    simp only [Rep] at r
    obtain ⟨a, vs, rfl, i, q⟩ := r
    exact ⟨a, vs, rfl, h.sqF i, q⟩
  · rename_i n
    simp only [Rep] at r
    obtain ⟨a, rfl, i⟩ := r
    split at e
    · rename_i ds' hs
      cases e
      obtain ⟨vs, q1, q2, q3⟩ := h.cel _ _ _ i hs
      exact ⟨a, vs, rfl, SqL.of q1, q2⟩
    · rename_i ds' hs
      cases e
      obtain ⟨vs, q1, q2⟩ := h.cel _ _ _ i hs
      exact ⟨a, vs, rfl, SqL.of (h.sqL q1), q2⟩
    · cases e
  · cases e

/-! ### binary operations -/
def bopO : Bop → Operator
  | .add => .Add
  | .sub => .Sub
  | .mul => .Mult
  | .fdiv => .FloorDiv
  | .mod => .Mod
def r2 (K : PySem.W.Frag) (cl : Nat → Addr) (B : List Nat) (f : D → D → Store → Res D) : R2 := fun x y H Q => ∃ w S d e Xc, Rep K w d x ∧ Rep K w e y ∧ HR K cl B w H S ∧ oR K cl B (Rep K) (f d e S) w Xc Q
theorem rep_int {K : PySem.W.Frag} {w : Wd} {i : Int} {x : V} (r : Rep K w (.int i) x) : x = .int i := by simpa [Rep] using r
theorem rep_str {K : PySem.W.Frag} {w : Wd} {i : Str} {x : V} (r : Rep K w (.str i) x) : x = .str i := by simpa [Rep] using r
theorem rep_bl {K : PySem.W.Frag} {w : Wd} {i : Bool} {x : V} (r : Rep K w (.bl i) x) : x = .bl i := by simpa [Rep] using r
theorem rep_non {K : PySem.W.Frag} {w : Wd} {x : V} (r : Rep K w .non x) : x = .non := by simpa [Rep] using r
theorem rep_tup {K : PySem.W.Frag} {w : Wd} {ds : List D} {x : V} (r : Rep K w (.tup ds) x) : ∃ a vs, x = .ref a ∧ w.I a = some (.t, vs) ∧ Reps K w ds vs := by simpa [Rep] using r
/-- an int comes out -/
theorem out_int {K : PySem.W.Frag} {i : Int} {Q : VK} (h : HR K cl B w H S) (q : oR K cl B (Rep K) (.ok (.int i) S) w Xc Q) : Q (.int i) H := q w _ H (.refl w) (by simp [Rep]) h
theorem out_bl {K : PySem.W.Frag} {i : Bool} {Q : VK} (h : HR K cl B w H S) (q : oR K cl B (Rep K) (.ok (.bl i) S) w Xc Q) : Q (.bl i) H := q w _ H (.refl w) (by simp [Rep]) h
theorem out_str {K : PySem.W.Frag} {i : Str} {Q : VK} (h : HR K cl B w H S) (q : oR K cl B (Rep K) (.ok (.str i) S) w Xc Q) : Q (.str i) H := q w _ H (.refl w) (by simp [Rep]) h
theorem out_d {K : PySem.W.Frag} {d : D} {x : V} {Q : VK} (h : HR K cl B w H S) (r : Rep K w d x) (q : oR K cl B (Rep K) (.ok d S) w Xc Q) : Q x H := q w _ H (.refl w) r h

theorem op_bin (m : Bool) (o : Bop) : OpR X (binaryOp (bopO o)) (r2 X.K cl B (binD m o)) := by
  intro pins s σ H x y v u Q I rx ry h
  obtain ⟨w, S, d, e, Xc, r1, r2, hr, q⟩ := h
  unfold binD at q
  split at q
  · rw [rep_int r1] at rx; rw [rep_int r2] at ry
    exact op_add pins s σ H _ _ v u Q I rx ry ⟨_, _, rfl, rfl, out_int hr q⟩
  · rw [rep_int r1] at rx; rw [rep_int r2] at ry
    exact op_sub pins s σ H _ _ v u Q I rx ry ⟨_, _, rfl, rfl, out_int hr q⟩
  · rename_i i j
    split at q
    · rename_i hm
      rw [rep_int r1] at rx; rw [rep_int r2] at ry
      exact op_mulW pins s σ H _ _ v u Q I rx ry ⟨_, _, rfl, rfl, show CMulW i j from of_decide_eq_true (p := i.natAbs.log2 + j.natAbs.log2 < 1000000) hm, out_int hr q⟩
    · exact q.elim
  · rename_i i j
    split at q
    · rename_i hm
      rw [rep_int r1] at rx; rw [rep_int r2] at ry
      have hm' := Bool.and_eq_true_iff.mp hm
      exact op_fdivW pins s σ H _ _ v u Q I rx ry ⟨_, _, rfl, rfl, ⟨of_decide_eq_true hm'.1, of_decide_eq_true hm'.2⟩, out_int hr q⟩
    · exact q.elim
  · rename_i i j
    split at q
    · rename_i hm
      rw [rep_int r1] at rx; rw [rep_int r2] at ry
      exact op_mod pins s σ H _ _ v u Q I rx ry ⟨_, _, rfl, rfl, hm, out_int hr q⟩
    · exact q.elim
  · rename_i i j
    rw [rep_bl r1] at rx; rw [rep_int r2] at ry
    cases rx
    obtain ⟨t, rfl⟩ := ry
    exact PySem.IntBool.add_bool_int ⟨.int _, H, I.tok _, ⟨_, rfl⟩, out_int hr q⟩
  · rename_i i j
    rw [rep_bl r1] at rx; rw [rep_int r2] at ry
    cases rx
    obtain ⟨t, rfl⟩ := ry
    exact PySem.IntBool.sub_bool_int ⟨.int _, H, I.tok _, ⟨_, rfl⟩, out_int hr q⟩
  · rename_i a b
    have r1' := r1
    have r2' := r2
    obtain ⟨p, xs, rfl, i1, s1⟩ := rep_tup r1
    obtain ⟨p', ys, rfl, i2, s2⟩ := rep_tup r2
    obtain ⟨z, q'⟩ := new_tupT hr (s1.append s2) q
    unfold newT at q
    split at q
    · refine op_catA pins s σ H _ _ v u Q I rx ry ⟨p, p', xs, ys, rfl, rfl, SqT.of (hr.sqT i1), SqT.of (hr.sqT i2), by simpa using z, fun h0 => ?_, fun _ h0 => ?_, fun _ _ => q'⟩
      · subst h0
        have : a = [] := by
          have := s1.length
          simp at this
          exact List.eq_nil_of_length_eq_zero this.symm
        subst this
        exact out_d hr r2' (by simpa using q)
      · subst h0
        have : b = [] := by
          have := s2.length
          simp at this
          exact List.eq_nil_of_length_eq_zero this.symm
        subst this
        exact out_d hr r1' (by simpa using q)
    · exact q.elim
  · split at q
    · rename_i hm
      rw [rep_str r1] at rx; rw [rep_str r2] at ry
      exact op_add_str pins s σ H _ _ v u Q I rx ry ⟨_, _, rfl, rfl, by rw [← line_eq]; exact hm, out_str hr q⟩
    · exact q.elim
  · rename_i a j
    split at q
    · rename_i hm
      obtain ⟨⟨m1, m2, m3⟩, m4⟩ := hm
      have r1' := r1
      obtain ⟨p, xs, rfl, i1, s1⟩ := rep_tup r1
      rw [rep_int r2] at ry
      have hl := s1.length
      have hne : xs ≠ [] := by
        intro e0
        subst e0
        cases a with
        | nil => simp at m4
        | cons b c => simp at hl
      by_cases j0 : j = 0
      · subst j0
        refine op_repT0 pins s σ H _ _ v u Q I rx ry ⟨p, xs, rfl, rfl, SqT.of (hr.sqT i1), hne, ?_⟩
        exact new_tup (ds := []) hr .nil (by simpa using q)
      · by_cases j1 : j = 1
        · subst j1
          refine op_repT1 pins s σ H _ _ v u Q I rx ry ⟨p, xs, rfl, rfl, SqT.of (hr.sqT i1), ?_⟩
          exact out_d hr r1' (by simpa using q)
        · refine op_repT pins s σ H _ _ v u Q I rx ry ⟨p, j, xs, rfl, rfl, SqT.of (hr.sqT i1), hne, by omega, m2, by omega, ?_⟩
          exact new_tup hr (s1.flat j.toNat) q
    · exact q.elim
  · split at q
    · rename_i xs ys e1 e2
      obtain ⟨a, vs, rfl, h1, s1⟩ := lst_of hr e1 r1
      obtain ⟨b, us, rfl, h2, s2⟩ := lst_of hr e2 r2
      obtain ⟨z, q'⟩ := new_lst hr (s1.append s2) q
      exact op_cat pins s σ H _ _ v u Q I rx ry ⟨a, b, vs, us, rfl, rfl, h1, h2, by simpa using z, q'⟩
    · exact q.elim
  · split at q
    · rename_i xs e1
      split at q
      · rename_i hm
        obtain ⟨a, vs, rfl, h1, s1⟩ := lst_of hr e1 r1
        rw [rep_int r2] at ry
        obtain ⟨z, q'⟩ := new_lst hr (s1.flat _) q
        rw [PyProof.Rows.lm_len_rep_flat, Nat.mul_comm] at z
        exact op_rep pins s σ H _ _ v u Q I rx ry ⟨a, _, vs, rfl, rfl, h1, by omega, by omega, z, q'⟩
      · exact q.elim
    · exact q.elim
  · exact q.elim

/-! ### comparisons -/
def copO : Cop → CmpOp
  | .eq => .Eq
  | .ne => .NotEq
  | .lt => .Lt
  | .le => .LtE
  | .gt => .Gt
  | .ge => .GtE
  | .is_ => .Is
  | .isnot => .IsNot
  | .in_ => .In
  | .notin => .NotIn
mutual
theorem dp_of (h : HR X.K cl B w H S) : ∀ {d : D} {x : V}, Rep X.K w d x → D.pure d = true → Dp X.K H x (D.py d)
  | .non, x, r, _ => by rw [rep_non r]; simp only [D.py]; exact .non
  | .bl b, x, r, _ => by rw [rep_bl r]; simp only [D.py]; exact .bl b
  | .int i, x, r, _ => by rw [rep_int r]; simp only [D.py]; exact .int i
  | .str i, x, r, _ => by rw [rep_str r]; simp only [D.py]; exact .str i
  | .tup ds, x, r, p => by
    simp only [Rep, D.pure, D.py] at r p ⊢
    obtain ⟨a, vs, rfl, i, q⟩ := r
    exact .tup (SqT.of (h.sqT i)) (dps_of h q p)
  | .lst ds, x, r, p => by
    simp only [Rep, D.pure, D.py] at r p ⊢
    obtain ⟨a, vs, rfl, i, q⟩ := r
    exact .lst (SqL.of (h.sqL i)) (dps_of h q p)
  | .scr ds, x, r, p => by
    simp only [Rep, D.pure, D.py] at r p ⊢
    obtain ⟨a, vs, rfl, i, q⟩ := r
    exact .lst (h.sqF i) (dps_of h q p)
  | .ref n, x, r, p => by simp [D.pure] at p
theorem dps_of (h : HR X.K cl B w H S) : ∀ {ds : List D} {xs : List V}, Reps X.K w ds xs → D.pures ds = true → DpAll X.K H xs (D.pys ds)
  | [], xs, r, _ => by simp only [Reps] at r; subst r; simp only [D.pys]; exact .nil
  | d :: ds, xs, r, p => by
    simp only [Reps, D.pures, Bool.and_eq_true, D.pys] at r p ⊢
    obtain ⟨v, t, rfl, a, b⟩ := r
    exact .cons (dp_of h a p.1) (dps_of h b p.2)
end
theorem dps_res {n : Nat} (ih : ∀ {d d' : D} {x : V}, resD S n d = some d' → Rep X.K w d x → Dp X.K H x (D.py d')) : ∀ {ds ds' : List D} {xs : List V}, mapO (resD S n) ds = some ds' → Reps X.K w ds xs → DpAll X.K H xs (D.pys ds')
  | [], ds', xs, e, r => by
    cases e
    simp only [Reps] at r
    subst r
    simp only [D.pys]
    exact .nil
  | d :: ds, ds', xs, e, r => by
    simp only [mapO] at e
    split at e
    · rename_i b t hb ht
      cases e
      simp only [Reps] at r
      obtain ⟨v, u, rfl, a, q⟩ := r
      simp only [D.pys]
      exact .cons (ih hb a) (dps_res ih ht q)
    · cases e
theorem dp_res (h : HR X.K cl B w H S) : ∀ (n : Nat) {d d' : D} {x : V}, resD S n d = some d' → Rep X.K w d x → Dp X.K H x (D.py d')
  | 0, _, _, _, e, _ => by cases e
  | n + 1, d, d', x, e, r => by
    unfold resD at e
    split at e
    · rename_i hp
      cases e
      exact dp_of h r hp
    · cases d with
      | ref k =>
        simp only at e
        simp only [Rep] at r
        obtain ⟨a, rfl, i⟩ := r
        split at e
        · rename_i ds hs
          obtain ⟨vs, q1, q2, q3⟩ := h.cel _ _ _ i hs
          cases e2 : mapO (resD S n) ds with
          | none => rw [e2] at e; cases e
          | some t =>
            rw [e2] at e
            cases e
            simp only [D.py]
            exact .lst (SqL.of q1) (dps_res (fun e r => dp_res h n e r) e2 q2)
        · rename_i ds hs
          obtain ⟨vs, q1, q2⟩ := h.cel _ _ _ i hs
          cases e2 : mapO (resD S n) ds with
          | none => rw [e2] at e; cases e
          | some t =>
            rw [e2] at e
            cases e
            simp only [D.py]
            exact .lst (SqL.of (h.sqL q1)) (dps_res (fun e r => dp_res h n e r) e2 q2)
        · cases e
      | lst ds =>
        simp only at e
        simp only [Rep] at r
        obtain ⟨a, vs, rfl, i, q⟩ := r
        cases e2 : mapO (resD S n) ds with
        | none => rw [e2] at e; cases e
        | some t =>
          rw [e2] at e
          cases e
          simp only [D.py]
          exact .lst (SqL.of (h.sqL i)) (dps_res (fun e r => dp_res h n e r) e2 q)
      | tup ds =>
        simp only at e
        simp only [Rep] at r
        obtain ⟨a, vs, rfl, i, q⟩ := r
        cases e2 : mapO (resD S n) ds with
        | none => rw [e2] at e; cases e
        | some t =>
          rw [e2] at e
          cases e
          simp only [D.py]
          exact .tup (SqT.of (h.sqT i)) (dps_res (fun e r => dp_res h n e r) e2 q)
      | _ => cases e
theorem dp_pyS (h : HR X.K cl B w H S) {d : D} {x : V} {p : PyData} (r : Rep X.K w d x) (e : pyS S d = some p) : Dp X.K H x p := by
  unfold pyS at e
  cases e2 : resD S 5 d with
  | none => rw [e2] at e; cases e
  | some t =>
    rw [e2] at e
    cases e
    exact dp_res h 5 e2 r
theorem flat_rep {K : PySem.W.Frag} {d : D} {x : V} (r : Rep K w d x) (f : flatD d = true) : flatV x = true := by
  cases d with
  | non => rw [rep_non r]; rfl
  | bl b => rw [rep_bl r]; rfl
  | int i => rw [rep_int r]; rfl
  | str i => rw [rep_str r]; rfl
  | tup _ => simp [flatD] at f
  | lst _ => simp [flatD] at f
  | scr _ => simp [flatD] at f
  | ref _ => simp [flatD] at f
theorem eq_flat {K : PySem.W.Frag} {d e : D} {x y : V} (r : Rep K w d x) (q : Rep K w e y) (f : flatD d = true) (g : flatD e = true) : eqV x y = eqFlat d e := by
  cases d with
  | non => rw [rep_non r]; cases e with
    | non => rw [rep_non q]; rfl
    | bl b => rw [rep_bl q]; rfl
    | int i => rw [rep_int q]; rfl
    | str i => rw [rep_str q]; rfl
    | tup _ => simp [flatD] at g
    | lst _ => simp [flatD] at g
    | scr _ => simp [flatD] at g
    | ref _ => simp [flatD] at g
  | bl b => rw [rep_bl r]; cases e with
    | non => rw [rep_non q]; rfl
    | bl b => rw [rep_bl q]; rfl
    | int i => rw [rep_int q]; rfl
    | str i => rw [rep_str q]; rfl
    | tup _ => simp [flatD] at g
    | lst _ => simp [flatD] at g
    | scr _ => simp [flatD] at g
    | ref _ => simp [flatD] at g
  | int i => rw [rep_int r]; cases e with
    | non => rw [rep_non q]; rfl
    | bl b => rw [rep_bl q]; rfl
    | int i => rw [rep_int q]; rfl
    | str i => rw [rep_str q]; rfl
    | tup _ => simp [flatD] at g
    | lst _ => simp [flatD] at g
    | scr _ => simp [flatD] at g
    | ref _ => simp [flatD] at g
  | str i => rw [rep_str r]; cases e with
    | non => rw [rep_non q]; rfl
    | bl b => rw [rep_bl q]; rfl
    | int i => rw [rep_int q]; rfl
    | str i => rw [rep_str q]; rfl
    | tup _ => simp [flatD] at g
    | lst _ => simp [flatD] at g
    | scr _ => simp [flatD] at g
    | ref _ => simp [flatD] at g
  | tup _ => simp [flatD] at f
  | lst _ => simp [flatD] at f
  | scr _ => simp [flatD] at f
  | ref _ => simp [flatD] at f
theorem any_flat {K : PySem.W.Frag} {e : D} {y : V} (q : Rep K w e y) (g : flatD e = true) : ∀ {ds : List D} {vs : List V}, Reps K w ds vs → ds.all flatD = true → vs.all flatV = true ∧ inV y vs = ds.any fun d => eqFlat d e
  | [], vs, r, f => by simp only [Reps] at r; subst r; exact ⟨rfl, rfl⟩
  | d :: ds, vs, r, f => by
    simp only [Reps] at r
    obtain ⟨v, t, rfl, a, b⟩ := r
    rw [List.all_cons, Bool.and_eq_true] at f
    obtain ⟨h1, h2⟩ := any_flat q g b f.2
    refine ⟨by rw [List.all_cons, flat_rep a f.1, h1]; rfl, ?_⟩
    unfold inV at h2 ⊢
    rw [List.any_cons, List.any_cons, h2, eq_flat a q f.1 g]
theorem non_rep {K : PySem.W.Frag} {d : D} {x : V} (r : Rep K w d x) : decide (x = V.non) = isNonD d := by
  cases d with
  | non => rw [rep_non r]; rfl
  | bl b => rw [rep_bl r]; rfl
  | int i => rw [rep_int r]; rfl
  | str i => rw [rep_str r]; rfl
  | tup _ => obtain ⟨a, vs, rfl, _⟩ := rep_tup r; rfl
  | lst _ => simp only [Rep] at r; obtain ⟨a, vs, rfl, _⟩ := r; rfl
  | scr _ => simp only [Rep] at r; obtain ⟨a, vs, rfl, _⟩ := r; rfl
  | ref _ => simp only [Rep] at r; obtain ⟨a, rfl, _⟩ := r; rfl
theorem op_cmp (hu : X.A.units + 64 < cLine) (o : Cop) : OpR X (compareOp (copO o)) (r2 X.K cl B (cmpD o)) := by
  intro pins s σ H x y v u Q I rx ry h
  obtain ⟨w, S, d, e, Xc, r1, r2, hr, q⟩ := h
  cases o with
  | eq =>
    simp only [cmpD] at q
    split at q
    · rename_i a b e1 e2
      split at q
      · rename_i hs
        have hs' := Bool.and_eq_true_iff.mp hs
        exact op_eqD hu pins s σ H _ _ v u Q I rx ry ⟨a, b, dp_pyS hr r1 e1, dp_pyS hr r2 e2, hs'.1, hs'.2, out_bl hr q⟩
      · exact q.elim
    · exact q.elim
  | ne =>
    simp only [cmpD] at q
    split at q
    · rename_i a b e1 e2
      split at q
      · rename_i hs
        have hs' := Bool.and_eq_true_iff.mp hs
        exact op_neD hu pins s σ H _ _ v u Q I rx ry ⟨a, b, dp_pyS hr r1 e1, dp_pyS hr r2 e2, hs'.1, hs'.2, out_bl hr q⟩
      · exact q.elim
    · exact q.elim
  | lt =>
    simp only [cmpD] at q
    split at q
    · rw [rep_int r1] at rx; rw [rep_int r2] at ry
      exact op_lt pins s σ H _ _ v u Q I rx ry ⟨_, _, rfl, rfl, out_bl hr q⟩
    · exact q.elim
  | le =>
    simp only [cmpD] at q
    split at q
    · rw [rep_int r1] at rx; rw [rep_int r2] at ry
      exact op_le pins s σ H _ _ v u Q I rx ry ⟨_, _, rfl, rfl, out_bl hr q⟩
    · rw [rep_str r1] at rx; rw [rep_str r2] at ry
      exact op_le_str pins s σ H _ _ v u Q I rx ry ⟨_, _, rfl, rfl, out_bl hr q⟩
    · exact q.elim
  | gt =>
    simp only [cmpD] at q
    split at q
    · rw [rep_int r1] at rx; rw [rep_int r2] at ry
      exact op_gt pins s σ H _ _ v u Q I rx ry ⟨_, _, rfl, rfl, out_bl hr q⟩
    · exact q.elim
  | ge =>
    simp only [cmpD] at q
    split at q
    · rw [rep_int r1] at rx; rw [rep_int r2] at ry
      exact op_ge pins s σ H _ _ v u Q I rx ry ⟨_, _, rfl, rfl, out_bl hr q⟩
    · exact q.elim
  | is_ =>
    simp only [cmpD] at q
    split at q
    · rw [rep_non r2] at ry
      refine op_isN pins s σ H _ _ v u Q I rx ry ⟨rfl, ?_⟩
      have q' := out_bl hr q
      have e := non_rep r1
      rw [e]
      exact q'
    · exact q.elim
  | isnot =>
    simp only [cmpD] at q
    split at q
    · rw [rep_non r2] at ry
      refine op_notN pins s σ H _ _ v u Q I rx ry ⟨rfl, ?_⟩
      have q' := out_bl hr q
      have e := non_rep r1
      rw [e]
      exact q'
    · exact q.elim
  | in_ =>
    simp only [cmpD] at q
    split at q
    · rename_i k ds e2
      split at q
      · rename_i hf
        have hf' := Bool.and_eq_true_iff.mp hf
        obtain ⟨a, vs, rfl, sq, rs⟩ := seq_of hr e2 r2
        obtain ⟨f2, f3⟩ := any_flat r1 hf'.1 rs hf'.2
        refine op_in_seq pins s σ H _ _ v u Q I rx ry ⟨a, vs, rfl, ?_, flat_rep r1 hf'.1, f2, ?_⟩
        · cases k with
          | true => exact .inl sq
          | false => exact .inr sq
        · simp only [Bool.false_eq_true, if_false, f3]
          exact out_bl hr q
      · exact q.elim
    · exact q.elim
  | notin =>
    simp only [cmpD] at q
    split at q
    · rename_i k ds e2
      split at q
      · rename_i hf
        have hf' := Bool.and_eq_true_iff.mp hf
        obtain ⟨a, vs, rfl, sq, rs⟩ := seq_of hr e2 r2
        obtain ⟨f2, f3⟩ := any_flat r1 hf'.1 rs hf'.2
        refine op_notIn_seq pins s σ H _ _ v u Q I rx ry ⟨a, vs, rfl, ?_, flat_rep r1 hf'.1, f2, ?_⟩
        · cases k with
          | true => exact .inl sq
          | false => exact .inr sq
        · simp only [if_true, f3]
          exact out_bl hr q
      · exact q.elim
    · exact q.elim

/-! ### truth, places, slices -/
theorem isEmpty_reps {K : PySem.W.Frag} {ds : List D} {vs : List V} (r : Reps K w ds vs) : vs.isEmpty = ds.isEmpty := by
  cases ds with
  | nil => simp only [Reps] at r; subst r; rfl
  | cons d ds => simp only [Reps] at r; obtain ⟨v, t, rfl, _⟩ := r; rfl
theorem tru_of (h : HR X.K cl B w H S) {d : D} {x : V} {k : Bool} (r : Rep X.K w d x) (e : truD S d = some k) : TruV X.K x H k := by
  have sq : (seqOf S d).map (fun p => !p.2.isEmpty) = some k → TruV X.K x H k := fun e => by
    cases hs : seqOf S d with
    | none => rw [hs] at e; cases e
    | some p =>
      rw [hs] at e
      obtain ⟨b, ds⟩ := p
      simp only [Option.map_some, Option.some.injEq] at e
      obtain ⟨a, vs, rfl, sq, rs⟩ := seq_of h hs r
      have e2 := isEmpty_reps rs
      cases b with
      | true => exact .inl ⟨vs, sq, by rw [e2]; exact e.symm⟩
      | false => exact .inr (.inl ⟨vs, sq, by rw [e2]; exact e.symm⟩)
  cases d with
  | non => rw [rep_non r]; simp only [truD, Option.some.injEq] at e; exact e.symm
  | bl b => rw [rep_bl r]; simp only [truD, Option.some.injEq] at e; exact e.symm
  | int i => rw [rep_int r]; simp only [truD, Option.some.injEq] at e; exact e.symm
  | str i =>
    rw [rep_str r]
    simp only [truD] at e
    split at e
    · rename_i hl
      simp only [Option.some.injEq] at e
      refine ⟨by rw [← line_eq]; exact hl, ?_⟩
      rw [← e]
      cases hn : i.length with
      | zero => rfl
      | succ n => simp; omega
    · cases e
  | tup _ => exact sq e
  | lst _ => exact sq e
  | scr _ => exact sq e
  | ref _ => exact sq e
theorem atD_at {K : PySem.W.Frag} {ds : List D} {vs : List V} {k : Int} {d : D} (r : Reps K w ds vs) (e : atD ds k = some d) : ∃ v, atI vs k = some v ∧ Rep K w d v := by
  unfold atD at e
  unfold atI
  have hx : ∀ n i, ixD n i = ixN n i := fun _ _ => rfl
  rw [hx] at e
  rw [r.length]
  cases hj : ixN ds.length k with
  | none => rw [hj] at e; cases e
  | some j =>
    rw [hj] at e
    obtain ⟨v, h1, h2⟩ := r.get (show ds[j]? = some d from e)
    exact ⟨v, h1, h2⟩
theorem ix_ok : IxR X (r2 X.K cl B ixS) := by
  intro value slice pins s σ H x y v u Q I rx ry h hs0
  obtain ⟨w, S, d, e, Xc, r1, r2, hr, q⟩ := h
  unfold ixS at q
  split at q
  · rename_i k
    rw [rep_int r2] at ry
    split at q
    · rename_i z
      split at q
      · rename_i hl
        split at q
        · rename_i c hc
          rw [rep_str r1] at rx
          refine ix_str value slice pins s σ H _ _ v u Q I rx ry ⟨z, k, c, rfl, rfl, by rw [← line_eq]; exact hl, ?_, out_str hr q⟩ hs0
          exact hc
        · exact q.elim
      · exact q.elim
    · split at q
      · rename_i b ds hs
        unfold ofO at q
        split at q
        · rename_i d' hd
          obtain ⟨a, vs, rfl, sq, rs⟩ := seq_of hr hs r1
          obtain ⟨v', h1, h2⟩ := atD_at rs hd
          cases b with
          | true => exact ix_list value slice pins s σ H _ _ v u Q I rx ry ⟨a, vs, k, v', rfl, rfl, sq, h1, out_d hr h2 q⟩ hs0
          | false => exact ix_tup value slice pins s σ H _ _ v u Q I rx ry ⟨a, vs, k, v', rfl, rfl, sq, h1, out_d hr h2 q⟩ hs0
        · exact q.elim
      · exact q.elim
  · exact q.elim
theorem clamp_sIx (n d : Nat) (hd : d ≤ n) (o : Option Int) : clampD n d o = HT.sIx n d o := by
  cases o with
  | none => rfl
  | some v =>
    have := HT.clip_eq v n d
    show (if v < 0 then Max.max (v + (n : Int)) 0 else Min.min v (n : Int)).toNat = _
    rw [this]
    simp
theorem cut_V (xs : List V) (lo hi : Option Int) : cutD xs lo hi = cutV xs lo hi := by
  unfold cutD cutV
  rw [clamp_sIx _ _ (Nat.zero_le _), clamp_sIx _ _ (Nat.le_refl _)]
theorem reps_cut {K : PySem.W.Frag} {ds : List D} {vs : List V} (r : Reps K w ds vs) (lo hi : Option Int) : Reps K w (cutD ds lo hi) (cutV vs lo hi) := by
  rw [← cut_V]
  unfold cutD
  rw [r.length]
  exact (r.drop _).take _
theorem cut_whole {α : Type} (xs : List α) (lo hi : Option Int) (h : HT.sIx xs.length 0 lo = 0 ∧ HT.sIx xs.length xs.length hi = xs.length) : cutD xs lo hi = xs := by
  unfold cutD
  rw [clamp_sIx _ _ (Nat.zero_le _), clamp_sIx _ _ (Nat.le_refl _), h.1, h.2]
  simp
def RepO (K : PySem.W.Frag) (w : Wd) : Option D → Option Int → Prop
  | none, o => o = none
  | some (.int i), o => o = some i
  | _, _ => False
theorem sl_ok (m : Bool) : SlR X (fun x lo hi H Q => ∃ w S d l h Xc, Rep X.K w d x ∧ intO l = some lo ∧ intO h = some hi ∧ HR X.K cl B w H S ∧ oR X.K cl B (Rep X.K) (slD m d l h S) w Xc Q) := by
  intro pins s σ H x v vl vu lo hi sl Q I rx hs pl pu h
  obtain ⟨w, S, d, l, h', Xc, r1, e1, e2, hr, q⟩ := h
  unfold slD at q
  rw [e1, e2] at q
  simp only at q
  split at q
  · rename_i z
    split at q
    · rename_i hl
      rw [rep_str r1] at rx
      refine sl_str pins s σ H _ v vl vu lo hi sl Q I rx hs pl pu ⟨z, rfl, by rw [← line_eq]; exact hl, ?_⟩
      have e : cutS z lo hi = ⟨(cutD z.cps.toList lo hi).toArray⟩ := by
        unfold cutS cutD
        have hz : z.cps.toList.length = z.length := by simp [Str.length]
        rw [hz, clamp_sIx _ _ (Nat.zero_le _), clamp_sIx _ _ (Nat.le_refl _)]
      rw [e]
      exact out_str hr q
    · exact q.elim
  · rename_i ds
    have r1' := r1
    obtain ⟨a, vs, rfl, i, rs⟩ := rep_tup r1
    refine sl_tupA pins s σ H _ v vl vu lo hi sl Q I rx hs pl pu ⟨a, vs, rfl, SqT.of (hr.sqT i), fun hw => ?_, fun _ => new_tup hr (reps_cut rs lo hi) q⟩
    rw [rs.length] at hw
    rw [cut_whole ds lo hi hw] at q
    exact out_d hr r1' q
  · split at q
    · rename_i ds e3
      obtain ⟨a, vs, rfl, h1, s1⟩ := lst_of hr e3 r1
      exact sl_list pins s σ H _ v vl vu lo hi sl Q I rx hs pl pu ⟨a, vs, rfl, SqL.of h1, (new_lst hr (reps_cut s1 lo hi) q).2⟩
    · exact q.elim
end
end Mn

/-! Mini: the built-in functions and methods on data. -/
namespace Mn
open PySem PySem.Spec PyProof.Rows L2

section
variable {X : Cx} {cl : Nat → Addr} {B : List Nat} {w : Wd} {H : Hp} {S : Store} {Xc : Nat → Hp → Prop}
theorem reps_ints {K : PySem.W.Frag} : ∀ {ds : List D} {vs : List V} {ns : List Int}, Reps K w ds vs → intsOf ds = some ns → vs = ns.map V.int
  | [], vs, ns, r, e => by
    simp only [Reps] at r; subst r
    simp only [intsOf, Option.some.injEq] at e; subst e; rfl
  | d :: ds, vs, ns, r, e => by
    simp only [Reps] at r
    obtain ⟨v, t, rfl, a, b⟩ := r
    cases d with
    | int i =>
      simp only [intsOf] at e
      cases h : intsOf ds with
      | none => rw [h] at e; cases e
      | some l =>
        rw [h] at e
        simp only [Option.map_some, Option.some.injEq] at e
        subst e
        rw [rep_int a, reps_ints b h]; rfl
    | _ => simp [intsOf] at e
theorem reps_bls {K : PySem.W.Frag} : ∀ {ds : List D} {vs : List V} {ns : List Bool}, Reps K w ds vs → blsOf ds = some ns → vs = ns.map V.bl
  | [], vs, ns, r, e => by
    simp only [Reps] at r; subst r
    simp only [blsOf, Option.some.injEq] at e; subst e; rfl
  | d :: ds, vs, ns, r, e => by
    simp only [Reps] at r
    obtain ⟨v, t, rfl, a, b⟩ := r
    cases d with
    | bl i =>
      simp only [blsOf] at e
      cases h : blsOf ds with
      | none => rw [h] at e; cases e
      | some l =>
        rw [h] at e
        simp only [Option.map_some, Option.some.injEq] at e
        subst e
        rw [rep_bl a, reps_bls b h]; rfl
    | _ => simp [blsOf] at e
theorem maxI_spec : ∀ (r : List Int) (a : Int), (maxI a r = a ∨ maxI a r ∈ r) ∧ a ≤ maxI a r ∧ ∀ y ∈ r, y ≤ maxI a r
  | [], a => ⟨.inl rfl, Int.le_refl _, by simp⟩
  | b :: r, a => by
    obtain ⟨h1, h2, h3⟩ := maxI_spec r (if b > a then b else a)
    refine ⟨?_, ?_, ?_⟩
    · show maxI (if b > a then b else a) r = a ∨ _
      rcases h1 with h1 | h1
      · by_cases hb : b > a
        · right
          show maxI (if b > a then b else a) r ∈ b :: r
          rw [h1, if_pos hb]; exact List.mem_cons_self
        · left
          rw [h1, if_neg hb]
      · exact .inr (List.mem_cons_of_mem _ h1)
    · show a ≤ maxI (if b > a then b else a) r
      by_cases hb : b > a
      · rw [if_pos hb] at h2 ⊢; omega
      · rw [if_neg hb] at h2 ⊢; exact h2
    · intro y hy
      show y ≤ maxI (if b > a then b else a) r
      rcases List.mem_cons.mp hy with e | e
      · subst e
        by_cases hb : y > a
        · rw [if_pos hb] at h2 ⊢; exact h2
        · rw [if_neg hb] at h2 ⊢; omega
      · exact h3 y e
theorem minI_spec : ∀ (r : List Int) (a : Int), (minI a r = a ∨ minI a r ∈ r) ∧ minI a r ≤ a ∧ ∀ y ∈ r, minI a r ≤ y
  | [], a => ⟨.inl rfl, Int.le_refl _, by simp⟩
  | b :: r, a => by
    obtain ⟨h1, h2, h3⟩ := minI_spec r (if b < a then b else a)
    refine ⟨?_, ?_, ?_⟩
    · show minI (if b < a then b else a) r = a ∨ _
      rcases h1 with h1 | h1
      · by_cases hb : b < a
        · right
          show minI (if b < a then b else a) r ∈ b :: r
          rw [h1, if_pos hb]; exact List.mem_cons_self
        · left
          rw [h1, if_neg hb]
      · exact .inr (List.mem_cons_of_mem _ h1)
    · show minI (if b < a then b else a) r ≤ a
      by_cases hb : b < a
      · rw [if_pos hb] at h2 ⊢; omega
      · rw [if_neg hb] at h2 ⊢; exact h2
    · intro y hy
      show minI (if b < a then b else a) r ≤ y
      rcases List.mem_cons.mp hy with e | e
      · subst e
        by_cases hb : y < a
        · rw [if_pos hb] at h2 ⊢; exact h2
        · rw [if_neg hb] at h2 ⊢; omega
      · exact h3 y e
theorem max_is {i : Int} {r : List Int} {m : Int} (h1 : m ∈ i :: r) (h2 : ∀ y, y ∈ i :: r → y ≤ m) : m = maxI i r := by
  obtain ⟨a, b, c⟩ := maxI_spec r i
  have hm : m ≤ maxI i r := by
    rcases List.mem_cons.mp h1 with e | e
    · rw [e]; exact b
    · exact c m e
  have hx : maxI i r ≤ m := by
    rcases a with a | a
    · rw [a]; exact h2 i List.mem_cons_self
    · exact h2 _ (List.mem_cons_of_mem _ a)
  omega
theorem min_is {i : Int} {r : List Int} {m : Int} (h1 : m ∈ i :: r) (h2 : ∀ y, y ∈ i :: r → m ≤ y) : m = minI i r := by
  obtain ⟨a, b, c⟩ := minI_spec r i
  have hm : minI i r ≤ m := by
    rcases List.mem_cons.mp h1 with e | e
    · rw [e]; exact b
    · exact c m e
  have hx : m ≤ minI i r := by
    rcases a with a | a
    · rw [a]; exact h2 i List.mem_cons_self
    · exact h2 _ (List.mem_cons_of_mem _ a)
  omega
theorem reads_ints {h : Heap} : ∀ {us : List Value} {ns : List Int}, IntsAre us ns → ReadsAll h us (ns.map PyData.int) []
  | _, _, .nil => .nil
  | _, _, .cons n t r => .cons (.int n t) (reads_ints r)
theorem alike_ints (ns : List Int) : PySem.W.AlikeAll (ns.map PyData.int) := by
  refine ⟨fun x hx y hy => ?_, fun x hx => ?_⟩
  · obtain ⟨i, _, rfl⟩ := List.mem_map.mp hx
    obtain ⟨j, _, rfl⟩ := List.mem_map.mp hy
    rfl
  · obtain ⟨i, _, rfl⟩ := List.mem_map.mp hx
    exact fun z => nomatch z
theorem depth_ints : ∀ ns : List Int, PyData.depthAll (ns.map PyData.int) = 0
  | [] => rfl
  | i :: r => by
    show max (PyData.depth (.int i)) (PyData.depthAll (r.map PyData.int)) = 0
    rw [depth_ints r]; rfl
theorem foldl_max (r : List Int) : ∀ a : Int, r.foldl max a = maxI a r := by
  induction r with
  | nil => intro a; rfl
  | cons b r ih =>
    intro a
    show r.foldl max (max a b) = maxI (if b > a then b else a) r
    rw [ih]
    congr 1
    omega
theorem foldl_min (r : List Int) : ∀ a : Int, r.foldl min a = minI a r := by
  induction r with
  | nil => intro a; rfl
  | cons b r ih =>
    intro a
    show r.foldl min (min a b) = minI (if b < a then b else a) r
    rw [ih]
    congr 1
    omega
theorem max_tup (hc : X.calm = true) (hu : X.A.units + 64 < cLine) : CallR X (.builtin "max") (fun vs H Q => ∃ (a : Addr) (i : Int) (r : List Int), vs = [V.ref a] ∧ SqT X.K H a ((i :: r).map V.int) ∧ Q (.int (maxI i r)) H) := by
  intro pins s σ H vs us Q I r h
  obtain ⟨a, i, ns, rfl, hs, q⟩ := h
  obtain ⟨its, rv, hl, _⟩ := I.tuple hs
  rw [Vals.ref1 r]
  have hi : IntsAre its (i :: ns) := rv.ints
  refine PySem.W.max_tuple_data (I.ok.hd hc) hl (x := .int i) (xs := ns.map PyData.int) (reads_ints hi) (alike_ints (i :: ns)) (by have := depth_ints (i :: ns); rw [List.map_cons] at this; rw [this]; omega) fun j v h' tk bs _ hv hk => ?_
  rw [PySem.W.maxD_ints, foldl_max] at hv
  cases hv
  exact ⟨.int _, H, I.kept hk, ⟨_, rfl⟩, q⟩
theorem min_tup (hc : X.calm = true) (hu : X.A.units + 64 < cLine) : CallR X (.builtin "min") (fun vs H Q => ∃ (a : Addr) (i : Int) (r : List Int), vs = [V.ref a] ∧ SqT X.K H a ((i :: r).map V.int) ∧ Q (.int (minI i r)) H) := by
  intro pins s σ H vs us Q I r h
  obtain ⟨a, i, ns, rfl, hs, q⟩ := h
  obtain ⟨its, rv, hl, _⟩ := I.tuple hs
  rw [Vals.ref1 r]
  have hi : IntsAre its (i :: ns) := rv.ints
  refine PySem.W.min_tuple_data (I.ok.hd hc) hl (x := .int i) (xs := ns.map PyData.int) (reads_ints hi) (alike_ints (i :: ns)) (by have := depth_ints (i :: ns); rw [List.map_cons] at this; rw [this]; omega) fun j v h' tk bs _ hv hk => ?_
  rw [PySem.W.minD_ints, foldl_min] at hv
  cases hv
  exact ⟨.int _, H, I.kept hk, ⟨_, rfl⟩, q⟩
theorem sum_tup (hc : X.calm = true) : CallR X (.builtin "sum") (fun vs H Q => ∃ (a : Addr) (ns : List Int), vs = [V.ref a] ∧ SqT X.K H a (ns.map V.int) ∧ Q (.int ns.sum) H) := by
  intro pins s σ H vs us Q I r h
  obtain ⟨a, ns, rfl, hs, q⟩ := h
  obtain ⟨its, rv, hl, _⟩ := I.tuple hs
  rw [Vals.ref1 r]
  have hi : IntsAre its ns := rv.ints
  obtain ⟨xs, e⟩ := hi.allInts.items
  have hn : numsOf (intItems xs).toList = ns := by rw [← e]; exact hi.numsOf
  rw [nums_intItems] at hn
  rw [e] at hl
  refine PySem.W.ktm_sumG (I.ok.hd hc) hl fun h' tk t' hk => ?_
  have := (⟨.int _, H, I.kept hk, ⟨_, rfl⟩, q⟩ : EP X pins σ Q (.int ns.sum t') { s with heap := h', toks := tk })
  rw [preSum_eq, List.take_of_length_le (by simp), hn]
  exact this

def biV : Bi → Value
  | .len => .builtin "len"
  | .abs => .builtin "abs"
  | .max => .builtin "max"
  | .min => .builtin "min"
  | .sum => .builtin "sum"
  | .all => .builtin "all"
  | .any => .builtin "any"
  | .int => .type "int"
  | .str => .type "str"
  | .tuple => .type "tuple"
  | .list => .type "list"
def rB (K : PySem.W.Frag) (cl : Nat → Addr) (B : List Nat) (f : List D → Store → Res D) : List V → Hp → VK → Prop := fun vs H Q => ∃ w S ds Xc, Reps K w ds vs ∧ HR K cl B w H S ∧ oR K cl B (Rep K) (f ds S) w Xc Q
theorem reps1 {K : PySem.W.Frag} {d : D} {vs : List V} (r : Reps K w [d] vs) : ∃ v, vs = [v] ∧ Rep K w d v := by
  simp only [Reps] at r
  obtain ⟨v, t, rfl, a, rfl⟩ := r
  exact ⟨v, rfl, a⟩
theorem reps2 {K : PySem.W.Frag} {d e : D} {vs : List V} (r : Reps K w [d, e] vs) : ∃ v u, vs = [v, u] ∧ Rep K w d v ∧ Rep K w e u := by
  simp only [Reps] at r
  obtain ⟨v, t, rfl, a, u, t', rfl, b, rfl⟩ := r
  exact ⟨v, u, rfl, a, b⟩
theorem bi_ok (hc : X.calm = true) (hu : X.A.units + 64 < cLine) (m : Bool) (b : Bi) : CallR X (biV b) (rB X.K cl B (biD m b)) := by
  intro pins s σ H vs us Q I rv h
  obtain ⟨w, S, ds, Xc, rs, hr, q⟩ := h
  unfold biD at q
  split at q
  -- len of a text
  · rename_i z
    obtain ⟨v, rfl, r1⟩ := reps1 rs
    split at q
    · rename_i hl
      exact call_len_str pins s σ H _ us Q I rv ⟨z, by rw [rep_str r1], by rw [← line_eq]; exact hl, out_int hr q⟩
    · exact q.elim
  -- len
  · obtain ⟨v, rfl, r1⟩ := reps1 rs
    split at q
    · rename_i k ds' hs
      obtain ⟨a, xs, rfl, sq, rs'⟩ := seq_of hr hs r1
      refine call_len_seq pins s σ H _ us Q I rv ⟨a, xs, rfl, ?_, ?_⟩
      · cases k with
        | true => exact .inl sq
        | false => exact .inr sq
      · rw [rs'.length]
        exact out_int hr q
    · exact q.elim
  -- abs
  · rename_i i
    obtain ⟨v, rfl, r1⟩ := reps1 rs
    exact call_abs pins s σ H _ us Q I rv ⟨i, by rw [rep_int r1], out_int hr q⟩
  -- max, min of two
  · rename_i i j
    obtain ⟨v, v', rfl, r1, r2⟩ := reps2 rs
    exact call_max2 hc pins s σ H _ us Q I rv ⟨i, j, by rw [rep_int r1, rep_int r2], out_int hr q⟩
  · rename_i i j
    obtain ⟨v, v', rfl, r1, r2⟩ := reps2 rs
    exact call_min2 hc pins s σ H _ us Q I rv ⟨i, j, by rw [rep_int r1, rep_int r2], out_int hr q⟩
  -- max
  · rename_i x
    obtain ⟨v, rfl, r1⟩ := reps1 rs
    split at q
    · rename_i i r e
      cases hs : seqOf S x with
      | none => rw [hs] at e; cases e
      | some p =>
        obtain ⟨k, ds'⟩ := p
        rw [hs] at e
        obtain ⟨a, xs, rfl, sq, rs'⟩ := seq_of hr hs r1
        have e2 := reps_ints rs' (show intsOf ds' = some (i :: r) from e)
        subst e2
        cases k with
        | true => exact cr_max hc pins s σ H _ us Q I rv ⟨a, i :: r, rfl, sq, by simp, fun m h1 h2 => by rw [max_is h1 h2]; exact out_int hr q⟩
        | false => exact max_tup hc hu pins s σ H _ us Q I rv ⟨a, i, r, rfl, sq, out_int hr q⟩
    · exact q.elim
  -- min
  · rename_i x
    obtain ⟨v, rfl, r1⟩ := reps1 rs
    split at q
    · rename_i i r e
      cases hs : seqOf S x with
      | none => rw [hs] at e; cases e
      | some p =>
        obtain ⟨k, ds'⟩ := p
        rw [hs] at e
        obtain ⟨a, xs, rfl, sq, rs'⟩ := seq_of hr hs r1
        have e2 := reps_ints rs' (show intsOf ds' = some (i :: r) from e)
        subst e2
        cases k with
        | true => exact cr_min hc pins s σ H _ us Q I rv ⟨a, i :: r, rfl, sq, by simp, fun m h1 h2 => by rw [min_is h1 h2]; exact out_int hr q⟩
        | false => exact min_tup hc hu pins s σ H _ us Q I rv ⟨a, i, r, rfl, sq, out_int hr q⟩
    · exact q.elim
  -- sum
  · rename_i x
    obtain ⟨v, rfl, r1⟩ := reps1 rs
    split at q
    · rename_i ns e
      cases hs : seqOf S x with
      | none => rw [hs] at e; cases e
      | some p =>
        obtain ⟨k, ds'⟩ := p
        rw [hs] at e
        obtain ⟨a, xs, rfl, sq, rs'⟩ := seq_of hr hs r1
        have e2 := reps_ints rs' (show intsOf ds' = some ns from e)
        subst e2
        cases k with
        | true => exact cr_sum hc pins s σ H _ us Q I rv ⟨a, ns, rfl, sq, out_int hr q⟩
        | false => exact sum_tup hc pins s σ H _ us Q I rv ⟨a, ns, rfl, sq, out_int hr q⟩
    · exact q.elim
  -- all, any
  · rename_i x
    obtain ⟨v, rfl, r1⟩ := reps1 rs
    split at q
    · rename_i bs e
      cases hs : lstOf S x with
      | none => rw [hs] at e; cases e
      | some ds' =>
        rw [hs] at e
        obtain ⟨a, xs, rfl, sq, rs'⟩ := lst_of hr hs r1
        have e2 := reps_bls rs' (show blsOf ds' = some bs from e)
        subst e2
        exact cr_all hc pins s σ H _ us Q I rv ⟨a, bs, rfl, SqL.of sq, out_bl hr q⟩
    · exact q.elim
  · rename_i x
    obtain ⟨v, rfl, r1⟩ := reps1 rs
    split at q
    · rename_i bs e
      cases hs : lstOf S x with
      | none => rw [hs] at e; cases e
      | some ds' =>
        rw [hs] at e
        obtain ⟨a, xs, rfl, sq, rs'⟩ := lst_of hr hs r1
        have e2 := reps_bls rs' (show blsOf ds' = some bs from e)
        subst e2
        exact cr_any hc pins s σ H _ us Q I rv ⟨a, bs, rfl, SqL.of sq, out_bl hr q⟩
    · exact q.elim
  -- int
  · rename_i i
    obtain ⟨v, rfl, r1⟩ := reps1 rs
    exact call_int1 pins s σ H _ us Q I rv (.inl ⟨i, by rw [rep_int r1], out_int hr q⟩)
  · rename_i k
    obtain ⟨v, rfl, r1⟩ := reps1 rs
    exact call_int1 pins s σ H _ us Q I rv (.inr ⟨k, by rw [rep_bl r1], out_int hr q⟩)
  · rename_i z
    obtain ⟨v, rfl, r1⟩ := reps1 rs
    split at q
    · rename_i n hn
      split at q
      · rename_i hl
        exact call_int_str pins s σ H _ us Q I rv ⟨z, n, by rw [rep_str r1], hn, hl, out_int hr q⟩
      · exact q.elim
    · exact q.elim
  -- str
  · rename_i i
    obtain ⟨v, rfl, r1⟩ := reps1 rs
    split at q
    · rename_i hl
      exact call_str_int pins s σ H _ us Q I rv ⟨i, by rw [rep_int r1], hl, out_str hr q⟩
    · exact q.elim
  · rename_i i
    obtain ⟨v, rfl, r1⟩ := reps1 rs
    rw [rep_bl r1] at rv
    obtain ⟨u, rfl, ru⟩ := Vals.one rv
    cases ru
    exact PySem.P.str_of_bool ⟨.str _, H, I.tok _, ⟨_, rfl⟩, out_str hr q⟩
  -- tuple
  · rename_i ds'
    obtain ⟨v, rfl, r1⟩ := reps1 rs
    have r1' := r1
    obtain ⟨a, xs, rfl, i, rs'⟩ := rep_tup r1
    exact call_tuple_of pins s σ H _ us Q I rv ⟨a, xs, rfl, .inr ⟨SqT.of (hr.sqT i), out_d hr r1' q⟩⟩
  · rename_i x _
    obtain ⟨v, rfl, r1⟩ := reps1 rs
    split at q
    · rename_i ds' hs
      obtain ⟨a, xs, rfl, sq, rs'⟩ := lst_of hr hs r1
      exact call_tuple_of pins s σ H _ us Q I rv ⟨a, xs, rfl, .inl ⟨SqL.of sq, new_tup hr rs' q⟩⟩
    · exact q.elim
  -- list
  · rename_i x
    obtain ⟨v, rfl, r1⟩ := reps1 rs
    split at q
    · rename_i k ds' hs
      obtain ⟨a, xs, rfl, sq, rs'⟩ := seq_of hr hs r1
      refine call_list_of pins s σ H _ us Q I rv ⟨a, xs, rfl, ?_, (new_lst hr rs' q).2⟩
      cases k with
      | true => exact .inl sq
      | false => exact .inr sq
    · exact q.elim
  · exact q.elim

/-! ### isinstance of a built-in class -/
def tyN : Ty → String
  | .int => "int"
  | .bool => "bool"
  | .str => "str"
  | .tuple => "tuple"
  | .list => "list"
theorem is_ok {d : D} {x : V} {t : Ty} {k : Bool} (hr : HR X.K cl B w H S) (r : Rep X.K w d x) (e : isD S d t = some k) : ∃ u, TyX X.K H x u ∧ PySem.W.kitOne X.K u (.type (tyN t)) = some k := by
  cases d with
  | non =>
    rw [rep_non r]
    refine ⟨_, .base .non, ?_⟩
    cases t <;> (simp only [isD, Option.some.injEq] at e; subst e; exact kit_ty (by decide +kernel))
  | bl b =>
    rw [rep_bl r]
    refine ⟨_, .base (.bl b), ?_⟩
    cases t <;> (simp only [isD, Option.some.injEq] at e; subst e; exact kit_ty (by decide +kernel))
  | int i =>
    rw [rep_int r]
    refine ⟨_, .base (.int i), ?_⟩
    cases t <;> (simp only [isD, Option.some.injEq] at e; subst e; exact kit_ty (by decide +kernel))
  | str i =>
    rw [rep_str r]
    refine ⟨_, .base (.str i), ?_⟩
    cases t <;> (simp only [isD, Option.some.injEq] at e; subst e; exact kit_ty (by decide +kernel))
  | tup ds =>
    obtain ⟨a, vs, rfl, i, _⟩ := rep_tup r
    refine ⟨_, .base (.tup (hr.sqT i)), ?_⟩
    cases t <;> (simp only [isD, Option.some.injEq] at e; subst e; exact kit_ty (by decide +kernel))
  | lst ds =>
    simp only [Rep] at r
    obtain ⟨a, vs, rfl, i, _⟩ := r
    refine ⟨_, .base (.lst (hr.sqL i)), ?_⟩
    cases t <;> (simp only [isD, Option.some.injEq] at e; subst e; exact kit_ty (by decide +kernel))
  | scr ds => cases t <;> simp [isD] at e
  | ref n =>
    simp only [Rep] at r
    obtain ⟨a, rfl, i⟩ := r
    have key : ∀ {vs : List V}, H a = some (.lst vs) → some (isLst t) = some k → ∃ u, TyX X.K H (.ref a) u ∧ PySem.W.kitOne X.K u (.type (tyN t)) = some k := fun {vs} ha e => by
      refine ⟨_, .base (.lst ha), ?_⟩
      cases t <;> (simp only [isLst, Option.some.injEq] at e; subst e; exact kit_ty (by decide +kernel))
    have e' : (match S[n]? with | some (.lst _) => some (isLst t) | some (.frz _) => some (isLst t) | _ => none) = some k := by
      cases t <;> exact e
    split at e'
    · rename_i ds hs
      obtain ⟨vs, q1, q2, q3⟩ := hr.cel _ _ _ i hs
      exact key q1 e'
    · rename_i ds hs
      obtain ⟨vs, q1, q2⟩ := hr.cel _ _ _ i hs
      exact key (hr.sqL q1) e'
    · cases e'

/-! ### methods of lists -/
theorem setC_ok {b n : Nat} {c : Cell} {p : Bool} {S' : Store} (e : setC b n c p S = some S') : S' = S.set n c ∧ n < S.length ∧ (n < b → p = true) := by
  unfold setC at e
  split at e
  · cases e
  · rename_i hn
    cases e
    refine ⟨rfl, by omega, fun h => ?_⟩
    cases p with
    | true => rfl
    | false => exact absurd (.inl ⟨h, rfl⟩) hn
theorem unders_append {b : Nat} : ∀ {xs ys : List D}, D.unders b xs → D.unders b ys → D.unders b (xs ++ ys)
  | [], ys, _, h => h
  | x :: xs, ys, h, k => by
    simp only [List.cons_append, D.unders] at h ⊢
    exact ⟨h.1, unders_append h.2 k⟩
theorem unders_dropLast {b : Nat} : ∀ {xs : List D}, D.unders b xs → D.unders b xs.dropLast
  | [], h => h
  | [x], _ => by simp [D.unders]
  | x :: y :: xs, h => by
    simp only [D.unders, List.dropLast_cons_cons] at h ⊢
    exact ⟨h.1, unders_dropLast (xs := y :: xs) (by simp only [D.unders]; exact h.2)⟩
theorem unders_set {b : Nat} {v : D} (hv : D.under b v) : ∀ {xs : List D} {j : Nat}, D.unders b xs → D.unders b (xs.set j v)
  | [], j, h => by simp [D.unders]
  | x :: xs, 0, h => by
    simp only [List.set_cons_zero, D.unders] at h ⊢
    exact ⟨hv, h.2⟩
  | x :: xs, j + 1, h => by
    simp only [List.set_cons_succ, D.unders] at h ⊢
    exact ⟨h.1, unders_set hv h.2⟩
/-- a list's cell written -/
theorem set_lst {b n : Nat} {a : Addr} {ds ds' : List D} {vs' : List V} {p : Bool} {S' : Store} (hB : ∀ c ∈ B, c ≤ b) (hr : HR X.K cl B w H S) (i : w.μ[n]? = some a) (hs : S[n]? = some (.lst ds)) (hI : w.I a = none) (rs : Reps X.K w ds' vs')
    (hu : p = true → ∀ c, D.unders c ds → D.unders c ds') (e : setC b n (.lst ds') p S = some S') : HR X.K cl B w (upd H a (.lst vs')) S' := by
  obtain ⟨rfl, hn, hp⟩ := setC_ok e
  refine hr.set1 i hI ⟨vs', upd_same, rs, hI⟩ fun c hc hcn => ?_
  have h1 := (hr.sco c hc).2 n _ hcn hs
  exact hu (hp (Nat.lt_of_lt_of_le hcn (hB c hc))) c h1
theorem app_okD (hB : ∀ c ∈ B, c ≤ b) {m : Bool} {d : D} {ds : List D} {x : V} {vs : List V} {Q : VK} (hr : HR X.K cl B w H S) (r : Rep X.K w d x) (rs : Reps X.K w ds vs) (q : oR X.K cl B (Rep X.K) (bmD b m .append d ds S) w Xc Q) : rAppend x vs H Q := by
  unfold bmD at q
  split at q
  · rename_i n e _
    split at q
    · rename_i ds' hs
      split at q
      · rename_i hl
        split at q
        · rename_i S' es
          simp only [Rep] at r
          obtain ⟨a, rfl, i⟩ := r
          obtain ⟨v, rfl, r1⟩ := reps1 rs
          obtain ⟨us, q1, q2, q3⟩ := hr.cel _ _ _ i hs
          have := set_lst (vs' := us ++ [v]) hB hr i hs q3 (q2.append (.one r1)) (fun hp c hc => unders_append hc (by simp only [D.unders, and_true]; exact D.under_pure hp)) es
          exact ⟨a, us, v, rfl, rfl, q1, by rw [q2.length, ← line_eq]; exact hl, q w _ _ (.refl w) (by simp [Rep]) this⟩
        · exact q.elim
      · exact q.elim
    · exact q.elim
  · rename_i h; cases h
  · exact q.elim
theorem pop_okD (hB : ∀ c ∈ B, c ≤ b) {m : Bool} {d : D} {ds : List D} {x : V} {vs : List V} {Q : VK} (hr : HR X.K cl B w H S) (r : Rep X.K w d x) (rs : Reps X.K w ds vs) (q : oR X.K cl B (Rep X.K) (bmD b m .pop d ds S) w Xc Q) : rPop x vs H Q := by
  unfold bmD at q
  split at q
  · rename_i h; cases h
  · rename_i n _
    split at q
    · rename_i ds' hs
      split at q
      · rename_i d' hd
        split at q
        · rename_i S' es
          simp only [Rep] at r
          obtain ⟨a, rfl, i⟩ := r
          simp only [Reps] at rs
          subst rs
          obtain ⟨us, q1, q2, q3⟩ := hr.cel _ _ _ i hs
          have := set_lst (vs' := us.dropLast) hB hr i hs q3 q2.dropLast (fun hp c hc => unders_dropLast hc) es
          obtain ⟨v, h1, h2⟩ := q2.get hd
          exact ⟨a, us, v, rfl, rfl, q1, by rw [q2.length]; exact h1, q w _ _ (.refl w) h2 this⟩
        · exact q.elim
      · exact q.elim
    · exact q.elim
  · exact q.elim
end
end Mn

/-! Mini: the check of a term against the program's own syntax; readings. -/
namespace Mn
open PySem PySem.Spec PyProof.Rows L2

/-! ### the check -/
def okN (x : Str) : Bool := !(x == ("__debug__" : Str)) && !(x == ("__classdict__" : Str))
def visB (sc : Scope) (x : Str) : Bool := match sc.names.lookup x with
  | some .local => true
  | some .cell => true
  | some .free => true
  | _ => false
def locB (sc : Scope) (x : Str) : Bool := match sc.names.lookup x with
  | some .local => true
  | some .cell => true
  | _ => false
def glB (sc : Scope) (x : Str) : Bool := match sc.names.lookup x with
  | some .globalImplicit => !(x == ("__debug__" : Str))
  | _ => false
def biN : Bi → Str
  | .len => "len"
  | .abs => "abs"
  | .max => "max"
  | .min => "min"
  | .sum => "sum"
  | .all => "all"
  | .any => "any"
  | .int => "int"
  | .str => "str"
  | .tuple => "tuple"
  | .list => "list"
def tyS : Ty → Str
  | .int => "int"
  | .bool => "bool"
  | .str => "str"
  | .tuple => "tuple"
  | .list => "list"
/-- the built-in names used -/
def bNames : List Str := ["len", "abs", "max", "min", "sum", "all", "any", "int", "str", "tuple", "list", "bool", "isinstance", "range", "enumerate", "zip"]
def chkV (N : List Str) (sc : Scope) (i : Nat) (x : Str) : Bool := decide (N[i]? = some x) && visB sc x && okN x
def chkC : D → Const → Bool
  | .non, .none => true
  | .bl a, .bool b => a == b
  | .int a, .int b => a == b
  | .str a, .str b => a == b
  | _, _ => false
/-- names stored: sc is the scope as it is written -/
def chkP1 (N : List Str) (sc : Scope) (i : Nat) (e : Expr) : Bool := match e with
  | .Name x _ => decide (N[i]? = some x) && locB sc x
  | _ => false
def chkPs (N : List Str) (sc : Scope) : List Nat → List Expr → Bool
  | [], [] => true
  | i :: is, e :: es => chkP1 N sc i e && chkPs N sc is es
  | _, _ => false
def chkP (N : List Str) (sc : Scope) : Pat → Expr → Bool
  | .one i, e => chkP1 N sc i e
  | .tup is, .Tuple es _ _ => chkPs N sc is es
  | _, _ => false
def isTup : Expr → Bool
  | .Tuple .. => true
  | _ => false
def ownN (N : List Str) (own : List Nat) : List (Str × Nat) := own.filterMap fun i => (N[i]?).map fun x => (x, i)
/-- the base of an attribute -/
def baseB : Expr → Bool
  | .Name .. => true
  | .Attribute .. => true
  | _ => false
/-- a pattern's names are among these -/
def patIn (own : List Nat) : Pat → Bool
  | .one i => own.contains i
  | .tup is => is.all fun i => own.contains i
mutual
/-- a term that may be tested -/
def tOk : ME → Bool
  | .ite _ _ _ => false
  | .not_ a => tOk a
  | .and_ es => tOks es
  | .or_ es => tOks es
  | _ => true
def tOks : MEs → Bool
  | .nil => true
  | .cons e es => tOk e && tOks es
end
mutual
def chkE (N : List Str) (sc : Scope) : ME → Expr → Bool
  | .var i, e => match e with
    | .Name x _ => chkV N sc i x
    | _ => false
  | .frz i, e => match e with
    | .Name x _ => chkV N sc i x
    | _ => false
  | .cst d, e => match e with
    | .Constant c _ _ => chkC d c
    | _ => false
  | .tup es, e => match e with
    | .Tuple xs _ _ => chkEs N sc es xs
    | _ => false
  | .lst _ es, e => match e with
    | .List xs _ => chkEs N sc es xs
    | _ => false
  | .bin _ o a b, e => match e with
    | .BinOp x op y _ => decide (op = bopO o) && chkE N sc a x && chkE N sc b y
    | _ => false
  | .neg a, e => match e with
    | .UnaryOp .USub x _ => chkE N sc a x
    | _ => false
  | .not_ a, e => match e with
    | .UnaryOp .Not x _ => chkE N sc a x
    | _ => false
  | .cmp o a b, e => match e with
    | .Compare x [op] [y] _ => decide (op = copO o) && chkE N sc a x && chkE N sc b y
    | _ => false
  | .chain o p a b c, e => match e with
    | .Compare x [op, op'] [y, z] _ => decide (op = copO o) && decide (op' = copO p) && chkE N sc a x && chkE N sc b y && chkE N sc c z
    | _ => false
  | .and_ es, e => match e with
    | .BoolOp .And (x :: xs) _ => chkEs N sc es (x :: xs)
    | _ => false
  | .or_ es, e => match e with
    | .BoolOp .Or (x :: xs) _ => chkEs N sc es (x :: xs)
    | _ => false
  | .ite c a b, e => match e with
    | .IfExp t x y _ => tOk c && chkE N sc c t && chkE N sc a x && chkE N sc b y
    | _ => false
  | .ix a i, e => match e with
    | .Subscript x y _ => chkE N sc a x && chkE N sc i y
    | _ => false
  | .sl _ a lo hi, e => match e with
    | .Subscript x (.Slice l h none _) _ => chkE N sc a x && chkM N sc lo l && chkM N sc hi h
    | _ => false
  | .rev _ a, e => match e with
    | .Subscript x (.Slice none none (some (.UnaryOp .USub (.Constant (.int 1) _ _) _)) _) _ => chkE N sc a x
    | _ => false
  | .call f _ es, e => match e with
    | .Call (.Name x _) (y :: xs) [] _ => decide (x = f) && glB sc x && chkEs N sc es (y :: xs)
    | _ => false
  | .bi _ b es, e => match e with
    | .Call (.Name x _) (y :: xs) [] _ => decide (x = biN b) && glB sc x && chkEs N sc es (y :: xs)
    | _ => false
  | .isi a t, e => match e with
    | .Call (.Name x _) [y, .Name z _] [] _ => decide (x = ("isinstance" : Str)) && glB sc x && decide (z = tyS t) && glB sc z && chkE N sc a y
    | _ => false
  | .bm _ o a es, e => match o, e with
    | .append, .Call (.Attribute x m ap) [y] [] cp => decide (m = ("append" : Str)) && baseB x && (ap.endLine == cp.line) && chkE N sc a x && chkEs N sc es [y]
    | .pop, .Call (.Attribute x m ap) [] [] cp => decide (m = ("pop" : Str)) && baseB x && (ap.endLine == cp.line) && chkE N sc a x && chkEs N sc es []
    | _, _ => false
  | .lc _ own elt tg it c, e => match e with
    | .ListComp x [⟨t, i, ifs, 0⟩] scope _ => blkC N sc scope (ownN N own) && decide ((ownN N own).map (·.2) = own) && patIn own tg && chkP N scope tg t && chkI N sc it (isTup t) i && chkF N (relS scope sc) c ifs && chkE N (relS scope sc) elt x
    | _ => false
  | _, _ => false
def chkEs (N : List Str) (sc : Scope) : MEs → List Expr → Bool
  | .nil, l => match l with
    | [] => true
    | _ => false
  | .cons m ms, l => match l with
    | e :: es => chkE N sc m e && chkEs N sc ms es
    | _ => false
def chkM (N : List Str) (sc : Scope) : MO → Option Expr → Bool
  | .none, o => match o with
    | none => true
    | _ => false
  | .some m, o => match o with
    | some e => chkE N sc m e
    | _ => false
def chkF (N : List Str) (sc : Scope) : MO → List Expr → Bool
  | .none, o => match o with
    | [] => true
    | _ => false
  | .some m, o => match o with
    | [e] => tOk m && chkE N sc m e
    | _ => false
def chkI (N : List Str) (sc : Scope) : MI → Bool → Expr → Bool
  | .exp m, _, e => chkE N sc m e
  | .rng1 a, _, e => match e with
    | .Call (.Name x _) [y] [] _ => decide (x = ("range" : Str)) && glB sc x && chkE N sc a y
    | _ => false
  | .rng2 a b, _, e => match e with
    | .Call (.Name x _) [y, z] [] _ => decide (x = ("range" : Str)) && glB sc x && chkE N sc a y && chkE N sc b z
    | _ => false
  | .enum m, t, e => match e with
    | .Call (.Name x _) [y] [] _ => t && decide (x = ("enumerate" : Str)) && glB sc x && chkE N sc m y
    | _ => false
  | .zip a b, t, e => match e with
    | .Call (.Name x _) [y, z] [] _ => t && decide (x = ("zip" : Str)) && glB sc x && chkE N sc a y && chkE N sc b z
    | _ => false
  | .zip3 a b c, t, e => false
end
end Mn

/-! Mini: what is walked, and the readings of terms. -/
namespace Mn
open PySem PySem.Spec PyProof.Rows L2

theorem _root_.L2.PE.imp {X : Cx} {e : Expr} {t t' : TE} (h : PE X e t) (i : ∀ σ H Q, t' σ H Q → t σ H Q) : PE X e t' := ⟨fun pins s σ H Q I q => h.run pins s σ H Q I (i σ H Q q)⟩
theorem _root_.L2.PT.imp {X : Cx} {e : Expr} {t t' : TT} (h : PT X e t) (i : ∀ σ H Q, t' σ H Q → t σ H Q) : PT X e t' := ⟨fun pins s σ H Q I q => h.run pins s σ H Q I (i σ H Q q)⟩
theorem _root_.L2.PA.imp {X : Cx} {e : List Expr} {t t' : TA} (h : PA X e t) (i : ∀ σ H Q, t' σ H Q → t σ H Q) : PA X e t' := ⟨fun pos pins s σ H Q I q => h.run pos pins s σ H Q I (i σ H Q q)⟩
theorem _root_.L2.PI.imp {X : Cx} {tg e : Expr} {t t' : TI} (h : PI X tg e t) (i : ∀ σ H Q, t' σ H Q → t σ H Q) : PI X tg e t' := ⟨fun pins s σ H R I q => h.run pins s σ H R I (i σ H R q)⟩
theorem _root_.L2.PTs.imp {X : Cx} {e : List Expr} {t t' : TT} (h : PTs X e t) (i : ∀ σ H Q, t' σ H Q → t σ H Q) : PTs X e t' := ⟨fun pins s σ H Q I q => h.run pins s σ H Q I (i σ H Q q)⟩

/-! ### slots -/
def EnvR (K : PySem.W.Frag) (w : Wd) (ρ : Env) (σ : L2.St) : Prop := ρ.length = σ.length ∧ ∀ (i : Nat) (d : D), ρ[i]? = some (some d) → ∃ v, σ[i]? = some (some v) ∧ Rep K w d v
theorem EnvR.mono {K : PySem.W.Frag} {w w' : Wd} {ρ : Env} {σ : L2.St} (h : EnvR K w ρ σ) (l : w.ex w') : EnvR K w' ρ σ := ⟨h.1, fun i d e => let ⟨v, a, b⟩ := h.2 i d e; ⟨v, a, b.mex l⟩⟩
theorem EnvR.set {K : PySem.W.Frag} {w : Wd} {ρ : Env} {σ : L2.St} {i : Nat} {d : D} {v : V} (h : EnvR K w ρ σ) (r : Rep K w d v) : EnvR K w (ρ.set i (some d)) (σ.set i (some v)) := by
  refine ⟨by simp [h.1], fun j e q => ?_⟩
  by_cases hj : j = i
  · subst hj
    by_cases hl : j < ρ.length
    · rw [List.getElem?_set_self hl] at q
      cases q
      exact ⟨v, List.getElem?_set_self (by rw [← h.1]; exact hl), r⟩
    · rw [List.getElem?_eq_none (by simpa using hl)] at q; cases q
  · rw [List.getElem?_set_ne (Ne.symm hj)] at q ⊢
    exact h.2 j e q
theorem EnvR.unset {K : PySem.W.Frag} {w : Wd} {ρ : Env} {σ : L2.St} {i : Nat} (h : EnvR K w ρ σ) : EnvR K w (ρ.set i none) (σ.set i none) := by
  refine ⟨by simp [h.1], fun j e q => ?_⟩
  by_cases hj : j = i
  · subst hj
    by_cases hl : j < ρ.length
    · rw [List.getElem?_set_self hl] at q; cases q
    · rw [List.getElem?_eq_none (by simpa using hl)] at q; cases q
  · rw [List.getElem?_set_ne (Ne.symm hj)] at q ⊢
    exact h.2 j e q
theorem EnvR.wipe {K : PySem.W.Frag} {w : Wd} {ρ : Env} {σ : L2.St} (h : EnvR K w ρ σ) : ∀ vs : List Nat, EnvR K w (wipeD ρ vs) (L2.wipe σ vs)
  | [] => h
  | v :: vs => (EnvR.wipe h vs).unset
theorem wipe_set {σ : L2.St} {i : Nat} {x : Option V} : ∀ {vs : List Nat}, i ∈ vs → L2.wipe (σ.set i x) vs = L2.wipe σ vs
  | [], h => by simp at h
  | v :: vs, h => by
    show (L2.wipe (σ.set i x) vs).set v none = (L2.wipe σ vs).set v none
    by_cases hi : i ∈ vs
    · rw [wipe_set hi]
    · have e : i = v := by
        rcases List.mem_cons.mp h with e | e
        · exact e
        · exact absurd e hi
      subst e
      have g : ∀ (us : List Nat), i ∉ us → L2.wipe (σ.set i x) us = (L2.wipe σ us).set i x := by
        intro us
        induction us with
        | nil => intro _; rfl
        | cons u us ih =>
          intro hu
          simp only [List.mem_cons, not_or] at hu
          show (L2.wipe (σ.set i x) us).set u none = ((L2.wipe σ us).set u none).set i x
          rw [ih hu.2, List.set_comm _ _ hu.1]
      rw [g vs hi, List.set_set]
theorem wipe_wipe {σ : L2.St} : ∀ {us vs : List Nat}, (∀ u ∈ us, u ∈ vs) → L2.wipe (L2.wipe σ us) vs = L2.wipe σ vs
  | [], _, _ => rfl
  | u :: us, vs, h => by
    show L2.wipe ((L2.wipe σ us).set u none) vs = _
    rw [wipe_set (h u List.mem_cons_self)]
    exact wipe_wipe fun x hx => h x (List.mem_cons_of_mem _ hx)

/-! ### what an iterator gives -/
structure WalkD (K : PySem.W.Frag) (cl : Nat → Addr) (B : List Nat) (w : Wd) (J : It) (items : List D) (src : Src) : Prop where
  go : ∀ (i : Nat) (w' : Wd) (H : Hp) (S : Store), i < items.length → w.ex w' → HR K cl B w' H S → src.stays S = true → J.go i H
  stop : ∀ (w' : Wd) (H : Hp) (S : Store), w.ex w' → HR K cl B w' H S → src.stays S = true → J.stop items.length H
  yld : ∀ (i : Nat) (w' : Wd) (H : Hp) (S : Store) (x : V) (H' : Hp) (d : D), items[i]? = some d → w.ex w' → HR K cl B w' H S → src.stays S = true → J.yld i H x H' → ∃ w'', w'.le w'' ∧ Rep K w'' d x ∧ HR K cl B w'' H' S
section
variable {X : Cx} {cl : Nat → Addr} {B : List Nat} {w : Wd} {H : Hp} {S : Store}
theorem Wd.ex.trans {a b c : Wd} (h : a.ex b) (k : b.ex c) : a.ex c := ⟨fun x p e => k.imm x p (h.imm x p e), fun n x e => k.cel n x (h.cel n x e)⟩
theorem seq_stays {d : D} {k : Bool} {ds : List D} {S' : Store} (e : seqOf S d = some (k, ds)) (st : Src.stays (srcOf d ds) S' = true) : seqOf S' d = some (k, ds) := by
  cases d with
  | tup _ => exact e
  | lst _ => exact e
  | scr _ => exact e
  | non => exact e
  | bl _ => exact e
  | int _ => exact e
  | str _ => exact e
  | ref n =>
    have hk : k = true := by
      simp only [seqOf] at e
      split at e <;> first | (cases e; rfl) | cases e
    subst hk
    simp only [srcOf, Src.stays, List.all_cons, List.all_nil, Bool.and_true] at st
    simp only [seqOf]
    split at st
    · rename_i es hs
      rw [D.sames_eq st]
    · rename_i es hs
      rw [D.sames_eq st]
    · cases st
theorem stays_app {a b : Src} {S : Store} (h : Src.stays (a ++ b) S = true) : Src.stays a S = true ∧ Src.stays b S = true := by
  unfold Src.stays at h ⊢
  rw [List.all_append, Bool.and_eq_true] at h
  exact h
/-- the sequence as it stands later -/
theorem seq_later {d : D} {k : Bool} {ds : List D} {a : Addr} {w' : Wd} {H' : Hp} {S' : Store} (e : seqOf S d = some (k, ds)) (r : Rep X.K w d (.ref a)) (l : w.ex w') (hr : HR X.K cl B w' H' S') (st : Src.stays (srcOf d ds) S' = true) :
    ∃ vs, Sq k X.K H' a vs ∧ Reps X.K w' ds vs := by
  obtain ⟨a', vs, ea, sq, rs⟩ := seq_of hr (seq_stays e st) (r.mex l)
  cases ea
  exact ⟨vs, sq, rs⟩
theorem walk_seq {d : D} {k : Bool} {ds : List D} {a : Addr} (e : seqOf S d = some (k, ds)) (r : Rep X.K w d (.ref a)) : WalkD X.K cl B w (if k then Itl X.K a else Itt X.K a) ds (srcOf d ds) := by
  cases k with
  | true =>
    refine ⟨fun i w' H S' hi l hr st => ?_, fun w' H S' l hr st => ?_, fun i w' H S' x H' d' hd l hr st y => ?_⟩
    · obtain ⟨vs, sq, rs⟩ := seq_later e r l hr st
      exact ⟨vs, vs[i]'(by rw [rs.length]; exact hi), sq, by simp⟩
    · obtain ⟨vs, sq, rs⟩ := seq_later e r l hr st
      exact ⟨vs, sq, by rw [rs.length]; exact Nat.le_refl _⟩
    · obtain ⟨vs, sq, rs⟩ := seq_later e r l hr st
      obtain ⟨e1, e2⟩ := y
      have e2' := e2 vs sq
      obtain ⟨v, h1, h2⟩ := rs.get hd
      rw [h1] at e2'
      cases e2'
      rw [e1]
      exact ⟨w', .refl _, h2, hr⟩
  | false =>
    refine ⟨fun i w' H S' hi l hr st => ?_, fun w' H S' l hr st => ?_, fun i w' H S' x H' d' hd l hr st y => ?_⟩
    · obtain ⟨vs, sq, rs⟩ := seq_later e r l hr st
      exact ⟨vs, vs[i]'(by rw [rs.length]; exact hi), sq, by simp⟩
    · obtain ⟨vs, sq, rs⟩ := seq_later e r l hr st
      exact ⟨vs, sq, by rw [rs.length]; exact Nat.le_refl _⟩
    · obtain ⟨vs, sq, rs⟩ := seq_later e r l hr st
      obtain ⟨e1, e2⟩ := y
      have e2' := e2 vs sq
      obtain ⟨v, h1, h2⟩ := rs.get hd
      rw [h1] at e2'
      cases e2'
      rw [e1]
      exact ⟨w', .refl _, h2, hr⟩
theorem walk_str {z : Str} : WalkD X.K cl B w (Its z) (z.cps.toList.map fun c => .str ⟨#[c]⟩) [] := by
  refine ⟨fun i w' H S' hi l hr st => ?_, fun w' H S' l hr st => ?_, fun i w' H S' x H' d' hd l hr st y => ?_⟩
  · show i < z.cps.size
    simpa using hi
  · show z.cps.size ≤ _
    simp
  · obtain ⟨e1, c, hc, rfl⟩ := y
    rw [e1]
    refine ⟨w', .refl _, ?_, hr⟩
    rw [List.getElem?_map] at hd
    have : z.cps.toList[i]? = some c := by simpa using hc
    rw [this] at hd
    cases hd
    simp [Rep]
theorem walk_rng {lo : Int} {n : Nat} : WalkD X.K cl B w (Itr lo n) (rngD lo n) [] := by
  have hl : (rngD lo n).length = n := by simp [rngD]
  refine ⟨fun i w' H S' hi l hr st => ?_, fun w' H S' l hr st => ?_, fun i w' H S' x H' d' hd l hr st y => ?_⟩
  · rw [hl] at hi; exact hi
  · show n ≤ _
    rw [hl]; exact Nat.le_refl _
  · obtain ⟨e1, rfl⟩ := y
    rw [e1]
    refine ⟨w', .refl _, ?_, hr⟩
    unfold rngD at hd
    rw [List.getElem?_map] at hd
    have hi : i < n := by
      have := (List.getElem?_eq_some_iff.mp (show (rngD lo n)[i]? = some d' by unfold rngD; rw [List.getElem?_map]; exact hd)).1
      rw [hl] at this; exact this
    rw [List.getElem?_range hi] at hd
    cases hd
    simp [Rep]
theorem enumD_length : ∀ (ds : List D) (k : Nat), (enumD k ds).length = ds.length
  | [], _ => rfl
  | d :: r, k => by show (enumD (k + 1) r).length + 1 = r.length + 1; rw [enumD_length r]
theorem enumD_get : ∀ (ds : List D) (k i : Nat), (enumD k ds)[i]? = ds[i]?.map fun d => .tup [.int ((k + i : Nat) : Int), d]
  | [], _, _ => by simp [enumD]
  | d :: r, k, 0 => by simp [enumD]
  | d :: r, k, i + 1 => by
    show (enumD (k + 1) r)[i]? = _
    rw [enumD_get r, List.getElem?_cons_succ]
    have : k + 1 + i = k + (i + 1) := by omega
    rw [this]
theorem walk_enum {d : D} {k : Bool} {ds : List D} {a : Addr} (e : seqOf S d = some (k, ds)) (r : Rep X.K w d (.ref a)) : WalkD X.K cl B w (IteG k X.K a) (enumD 0 ds) (srcOf d ds) := by
  refine ⟨fun i w' H S' hi l hr st => ?_, fun w' H S' l hr st => ?_, fun i w' H S' x H' d' hd l hr st y => ?_⟩
  · rw [enumD_length] at hi
    obtain ⟨vs, sq, rs⟩ := seq_later e r l hr st
    exact ⟨vs, vs[i]'(by rw [rs.length]; exact hi), sq, by simp⟩
  · obtain ⟨vs, sq, rs⟩ := seq_later e r l hr st
    exact ⟨vs, sq, by rw [enumD_length, rs.length]⟩
  · obtain ⟨vs, sq, rs⟩ := seq_later e r l hr st
    obtain ⟨T, u, rfl, hT, rfl, hu⟩ := y
    rw [enumD_get] at hd
    cases hdi : ds[i]? with
    | none => rw [hdi] at hd; cases hd
    | some di =>
      rw [hdi] at hd
      cases hd
      obtain ⟨v, h1, h2⟩ := rs.get hdi
      have hu' := hu vs sq
      rw [h1] at hu'
      cases hu'
      have le := Wd.le_imm (q := (Kd.t, [V.int (i : Nat), u])) (hr.nI hT)
      refine ⟨_, le, ?_, hr.imm1 .t hT upd_same⟩
      simp only [Rep]
      exact ⟨T, _, rfl, if_pos rfl, .cons (by simp [Rep]) (.one (h2.mono le))⟩
theorem zipD_length : ∀ (a b : List D), (zipD a b).length = min a.length b.length
  | [], _ => by simp [zipD]
  | _ :: _, [] => by simp [zipD]
  | x :: r, y :: s => by show (zipD r s).length + 1 = min (r.length + 1) (s.length + 1); rw [zipD_length r s]; omega
theorem zipD_get : ∀ (a b : List D) (i : Nat) (d : D), (zipD a b)[i]? = some d → ∃ x y, a[i]? = some x ∧ b[i]? = some y ∧ d = .tup [x, y]
  | [], _, _, _, h => by simp [zipD] at h
  | _ :: _, [], _, _, h => by simp [zipD] at h
  | x :: r, y :: s, 0, d, h => by simp [zipD] at h; exact ⟨x, y, rfl, rfl, h.symm⟩
  | x :: r, y :: s, i + 1, d, h => by
    have h' : (zipD r s)[i]? = some d := h
    obtain ⟨a, b, h1, h2, h3⟩ := zipD_get r s i d h'
    exact ⟨a, b, h1, h2, h3⟩
theorem walk_zip {d g : D} {k1 k2 : Bool} {ds gs : List D} {a b : Addr} (e : seqOf S d = some (k1, ds)) (e2 : seqOf S g = some (k2, gs)) (r : Rep X.K w d (.ref a)) (r2 : Rep X.K w g (.ref b)) :
    WalkD X.K cl B w (ItzG k1 k2 X.K a b) (zipD ds gs) (srcOf d ds ++ srcOf g gs) := by
  refine ⟨fun i w' H S' hi l hr st => ?_, fun w' H S' l hr st => ?_, fun i w' H S' x H' d' hd l hr st y => ?_⟩
  · rw [zipD_length] at hi
    obtain ⟨st1, st2⟩ := stays_app st
    obtain ⟨vs, sq, rs⟩ := seq_later e r l hr st1
    obtain ⟨us, sq2, rs2⟩ := seq_later e2 r2 l hr st2
    exact ⟨vs, us, vs[i]'(by rw [rs.length]; omega), us[i]'(by rw [rs2.length]; omega), sq, sq2, by simp, by simp⟩
  · obtain ⟨st1, st2⟩ := stays_app st
    obtain ⟨vs, sq, rs⟩ := seq_later e r l hr st1
    obtain ⟨us, sq2, rs2⟩ := seq_later e2 r2 l hr st2
    exact ⟨vs, us, sq, sq2, by rw [zipD_length, rs.length, rs2.length]⟩
  · obtain ⟨st1, st2⟩ := stays_app st
    obtain ⟨vs, sq, rs⟩ := seq_later e r l hr st1
    obtain ⟨us, sq2, rs2⟩ := seq_later e2 r2 l hr st2
    obtain ⟨T, u, u2, rfl, hT, rfl, hu, hu2⟩ := y
    obtain ⟨p, q, hp, hq, rfl⟩ := zipD_get _ _ _ _ hd
    obtain ⟨v, h1, h2⟩ := rs.get hp
    obtain ⟨v2, h3, h4⟩ := rs2.get hq
    have hu' := hu vs sq
    rw [h1] at hu'
    cases hu'
    have hu2' := hu2 us sq2
    rw [h3] at hu2'
    cases hu2'
    have le := Wd.le_imm (q := (Kd.t, [u, u2])) (hr.nI hT)
    refine ⟨_, le, ?_, hr.imm1 .t hT upd_same⟩
    simp only [Rep]
    exact ⟨T, _, rfl, if_pos rfl, .cons (h2.mono le) (.one (h4.mono le))⟩
end

/-! ### walking a sequence of unknown kind -/
section
variable {X : Cx} {pins : List (Addr × Obj)} {σ : L2.St} {H : Hp} {s : Shared} {tg : Expr} {R : It → Hp → Prop}
theorem it_list {a : Addr} {xs : List V} (I1 : Inv X pins σ H s) (hq : SqL X.K H a xs) (q : R (Itl X.K a) H) : wpAny (model X.prog X.w) X.A (pyIter (.ref a)) (PIE X pins σ tg R) X.xe s := by
  obtain ⟨its, rv, p, hz⟩ := I1.list hq
  refine wpAny_pyIter_list p.isList ?_
  refine ⟨s.heap.objs.size, [s.heap.objs.size], _, _, H, rfl, I1.kept (t' := s.toks) fun b o e => Heap.get?_push_of_some _ e, turn_list a _, ⟨_, Heap.get?_push_size _ rfl, rfl, rfl⟩, fun b hb => ?_, q⟩
  have e : b = s.heap.objs.size := by simpa using hb
  subst e
  exact I1.fpOk (Nat.le_refl _) (I1.hok.fresh (Nat.le_refl _))
theorem it_tup {a : Addr} {xs : List V} (I1 : Inv X pins σ H s) (hq : SqT X.K H a xs) (q : R (Itt X.K a) H) : wpAny (model X.prog X.w) X.A (pyIter (.ref a)) (PIE X pins σ tg R) X.xe s := by
  obtain ⟨its, rv, p, hz⟩ := I1.tuple hq
  refine wpAny_pyIter_tuple (show s.heap.IsTuple a its.toArray from p) ?_
  refine ⟨s.heap.objs.size, [s.heap.objs.size], _, _, H, rfl, I1.kept (t' := s.toks) fun b o e => Heap.get?_push_of_some _ e, turn_tuple a _, ⟨_, Heap.get?_push_size _ rfl, rfl, rfl⟩, fun b hb => ?_, q⟩
  have e : b = s.heap.objs.size := by simpa using hb
  subst e
  exact I1.fpOk (Nat.le_refl _) (I1.hok.fresh (Nat.le_refl _))
theorem it_str {z : Str} {t : Tok} (I1 : Inv X pins σ H s) (q : R (Its z) H) : wpAny (model X.prog X.w) X.A (pyIter (.str z t)) (PIE X pins σ tg R) X.xe s := by
  refine wpAny_pyIter_strU ?_
  refine ⟨s.heap.objs.size, [s.heap.objs.size], _, _, H, rfl, I1.kept (t' := s.toks) fun b o e => Heap.get?_push_of_some _ e, turn_str _ z t (strIterType z) (by unfold strIterType; split <;> simp), ⟨_, Heap.get?_push_size _ rfl, rfl, rfl⟩, fun b hb => ?_, q⟩
  have e : b = s.heap.objs.size := by simpa using hb
  subst e
  exact I1.fpOk (Nat.le_refl _) (I1.hok.fresh (Nat.le_refl _))
def iAny (K : PySem.W.Frag) (tl : TE) : TI := fun σ H R => tl σ H fun x H1 => (∃ k a xs, x = .ref a ∧ Sq k K H1 a xs ∧ R (if k then Itl K a else Itt K a) H1) ∨ ∃ z, x = .str z ∧ R (Its z) H1
theorem pi_any {l : Expr} {tl : TE} (hl : PE X l tl) : PI X tg l (iAny X.K tl) := by
  refine ⟨fun pins s σ H R I h => ?_⟩
  refine thn (hl.run pins s σ H _ I h) fun v s1 ⟨x, H1, I1, r1, q1⟩ => ?_
  rcases q1 with ⟨k, a, xs, rfl, sq, q⟩ | ⟨z, rfl, q⟩
  · cases r1
    cases k with
    | true => exact it_list I1 sq q
    | false => exact it_tup I1 sq q
  · obtain ⟨t, rfl⟩ := r1
    exact it_str I1 q
end

/-! ### readings -/
section
variable (K : PySem.W.Frag) (cl xa : Nat → Addr) (B : List Nat) (b : Nat) (W : WX)
abbrev xc (σ : L2.St) : Nat → Hp → Prop := fun c H' => W (.ref (xa c)) none σ H'
def tE (m : ME) : TE := fun σ H Q => ∃ w ρ S, EnvR K w ρ σ ∧ HR K cl B w H S ∧ oR K cl B (Rep K) (evE b m ρ S) w (xc xa W σ) Q
def tEs (m : MEs) : TA := fun σ H Q => ∃ w ρ S, EnvR K w ρ σ ∧ HR K cl B w H S ∧ oR K cl B (Reps K) (evEs b m ρ S) w (xc xa W σ) Q
def eqR : Wd → Bool → Bool → Prop := fun _ a b => a = b
def tT (m : ME) : TT := fun σ H Q => ∃ w ρ S, EnvR K w ρ σ ∧ HR K cl B w H S ∧ oR K cl B eqR ((evE b m ρ S).bind tru1) w (xc xa W σ) Q
def tTs (m : MEs) (f : Nat → MEs → Env → Store → Res D) : TT := fun σ H Q => ∃ w ρ S, EnvR K w ρ σ ∧ HR K cl B w H S ∧ oR K cl B eqR ((f b m ρ S).bind tru1) w (xc xa W σ) Q
def tI (m : MI) : TI := fun σ H R => ∃ w ρ S, EnvR K w ρ σ ∧ HR K cl B w H S ∧ oR K cl B (fun w q J => WalkD K cl B w J q.1 q.2) (evI b m ρ S) w (xc xa W σ) R
end
section
variable {K : PySem.W.Frag} {cl xa : Nat → Addr} {B : List Nat} {b : Nat} {W : WX} {w : Wd} {ρ : Env} {σ : L2.St} {H : Hp} {S : Store}
/-- a term, then what follows -/
theorem tE_bind {α β : Type} {R : Wd → α → β → Prop} {m : ME} {k : D → Store → Res α} {Q : β → Hp → Prop} (he : EnvR K w ρ σ) (hr : HR K cl B w H S) (q : oR K cl B R ((evE b m ρ S).bind k) w (xc xa W σ) Q) :
    tE K cl xa B b W m σ H fun x H' => ∃ w' d S', w.le w' ∧ Rep K w' d x ∧ HR K cl B w' H' S' ∧ oR K cl B R (k d S') w' (xc xa W σ) Q := ⟨w, ρ, S, he, hr, q.bind⟩
theorem tEs_bind {α β : Type} {R : Wd → α → β → Prop} {m : MEs} {k : List D → Store → Res α} {Q : β → Hp → Prop} (he : EnvR K w ρ σ) (hr : HR K cl B w H S) (q : oR K cl B R ((evEs b m ρ S).bind k) w (xc xa W σ) Q) :
    tEs K cl xa B b W m σ H fun x H' => ∃ w' d S', w.le w' ∧ Reps K w' d x ∧ HR K cl B w' H' S' ∧ oR K cl B R (k d S') w' (xc xa W σ) Q := ⟨w, ρ, S, he, hr, q.bind⟩
theorem tE.imp {m : ME} {Q Q' : VK} (h : tE K cl xa B b W m σ H Q) (i : ∀ x H', Q x H' → Q' x H') : tE K cl xa B b W m σ H Q' := let ⟨w, ρ, S, he, hr, q⟩ := h; ⟨w, ρ, S, he, hr, q.imp i⟩
theorem tEs.imp {m : MEs} {Q Q' : List V → Hp → Prop} (h : tEs K cl xa B b W m σ H Q) (i : ∀ x H', Q x H' → Q' x H') : tEs K cl xa B b W m σ H Q' := let ⟨w, ρ, S, he, hr, q⟩ := h; ⟨w, ρ, S, he, hr, q.imp i⟩
/-- a test, then what follows (k: what follows a true one, a false one) -/
theorem tT_bind {α β : Type} {R : Wd → α → β → Prop} {m : ME} {k : Bool → Store → Res α} {Q : β → Hp → Prop} (he : EnvR K w ρ σ) (hr : HR K cl B w H S) (q : oR K cl B R (((evE b m ρ S).bind tru1).bind k) w (xc xa W σ) Q) :
    tT K cl xa B b W m σ H fun x H' => ∃ w' S', w.le w' ∧ HR K cl B w' H' S' ∧ oR K cl B R (k x S') w' (xc xa W σ) Q := by
  refine ⟨w, ρ, S, he, hr, q.bind.imp fun x H' h => ?_⟩
  obtain ⟨w', d, S', l, e, hr', q'⟩ := h
  have e : d = x := e
  subst e
  exact ⟨w', S', l, hr', q'⟩
end
end Mn

/-! Mini: SOUNDNESS of expressions. -/
namespace Mn
open PySem PySem.Spec PyProof.Rows L2

/-! ### what the check says of the syntax -/
def oddE : Expr → Bool
  | .Starred .. => true
  | .Set .. => true
  | .Slice .. => true
  | _ => false
theorem chk_odd {N : List Str} {sc : Scope} {m : ME} {e : Expr} (h : chkE N sc m e = true) : oddE e = false := by
  cases e with
  | Starred => cases m <;> simp [chkE] at h
  | Set => cases m <;> simp [chkE] at h
  | Slice => cases m <;> simp [chkE] at h
  | _ => rfl
theorem star_of {e : Expr} (h : oddE e = false) (es : List Expr) (env : PySem.Env) : starEach (e :: es) env = (false, eval e env) :: starEach es env := by
  cases e with
  | Starred => simp [oddE] at h
  | _ => rfl
theorem plain_ix {e : Expr} (h : oddE e = false) : PlainIx e := by
  intro o i
  cases e with
  | Slice => simp [oddE] at h
  | _ => rfl
theorem nomarks {e : Expr} (h : oddE e = false) (op : CmpOp) : behindInMarks op e = false := by
  cases e with
  | Set => simp [oddE] at h
  | _ => rfl
theorem nofold {e : Expr} (h : oddE e = false) (env : PySem.Env) (x : Value) : foldedSetIterable e env x = pure x := by
  cases e with
  | Set => simp [oddE] at h
  | _ => rfl
theorem stars_none {N : List Str} {sc : Scope} : ∀ {ms : MEs} {es : List Expr}, chkEs N sc ms es = true → ∀ (pos : Pos) (env : PySem.Env), (backTo pos (starEach es env)).any (·.1) = false
  | .nil, es, h => by
    cases es with
    | nil => intro _ _; rfl
    | cons => simp [chkEs] at h
  | .cons m ms, es, h => by
    cases es with
    | nil => simp [chkEs] at h
    | cons e es =>
      simp only [chkEs, Bool.and_eq_true] at h
      intro pos env
      rw [star_of (chk_odd h.1)]
      have := stars_none h.2 pos env
      simp only [backTo, List.map_cons, List.any_cons, Bool.false_or] at this ⊢
      exact this
theorem base_of {e : Expr} (h : baseB e = true) (f : Str) (env : PySem.Env) : attributeBase e f env (eval e env) = eval e env := by
  cases e with
  | Name => rfl
  | Attribute => rfl
  | _ => simp [baseB] at h
theorem vis_of {sc : Scope} {x : Str} (h : visB sc x = true) : Vis sc x := by
  unfold visB at h
  split at h
  · exact .inl (by assumption)
  · exact .inr (.inl (by assumption))
  · exact .inr (.inr (by assumption))
  · cases h
theorem loc_of {sc : Scope} {x : Str} (h : locB sc x = true) : Loc sc x := by
  unfold locB at h
  split at h
  · exact .inl (by assumption)
  · exact .inr (by assumption)
  · cases h
theorem gl_of {sc : Scope} {x : Str} (h : glB sc x = true) : sc.names.lookup x = some .globalImplicit ∧ (x == ("__debug__" : Str)) = false := by
  unfold glB at h
  split at h
  · exact ⟨by assumption, by simpa using h⟩
  · cases h

/-! ### the promise of a def -/
def spF (K : PySem.W.Frag) (cl xa : Nat → Addr) (den : FnSem) (ar : Nat) : Sp := fun vs H Q E => vs.length = ar ∧ ∃ B b w S ds, (∀ c ∈ B, c ≤ b) ∧ HR K cl B w H S ∧ Reps K w ds vs ∧
  oR K cl B (Rep K) (den b ds S) w (fun c H' => E (.ref (xa c)) none H') Q
structure FnAt (P : Program) (wo : World) (K : PySem.W.Frag) (mg : Str → Option Value) (base : Heap) (cl xa : Nat → Addr) (k : Nat) (x : Str) (den : FnSem) : Prop where
  ex : ∃ (f : Addr) (fd : FuncData) (ps : List Str), FnOk P wo K mg base (L2.CX P wo) k f fd ps (spF K cl xa den ps.length) ∧ mg x = some (.ref f) ∧ PySem.W.keepIn K (.ref f) = true ∧ Binds K fd ps [] ∧ ∀ b ds S, ds.length ≠ ps.length → den b ds S = .stuck
structure Good (X : Cx) (cl xa : Nat → Addr) (B : List Nat) (b : Nat) (W : WX) (k : Nat) (sc : Scope) : Prop where
  nd : X.N.Nodup
  calm : X.calm = true
  hsc : X.env.scope = sc
  tk : Takes X W
  room : Room k X.A
  hB : ∀ c ∈ B, c ≤ b
  bts : ∀ x ∈ bNames, X.mg x = none
mutual
/-- the defs that are called are there -/
def LvE (P : Str → FnSem → Prop) : ME → Prop
  | .tup es => LvEs P es
  | .lst _ es => LvEs P es
  | .bin _ _ a b => LvE P a ∧ LvE P b
  | .neg a => LvE P a
  | .not_ a => LvE P a
  | .cmp _ a b => LvE P a ∧ LvE P b
  | .chain _ _ a b c => LvE P a ∧ LvE P b ∧ LvE P c
  | .and_ es => LvEs P es
  | .or_ es => LvEs P es
  | .ite c a b => LvE P c ∧ LvE P a ∧ LvE P b
  | .ix a i => LvE P a ∧ LvE P i
  | .sl _ a lo hi => LvE P a ∧ LvM P lo ∧ LvM P hi
  | .rev _ a => LvE P a
  | .call x g es => P x g ∧ LvEs P es
  | .bi _ _ es => LvEs P es
  | .isi a _ => LvE P a
  | .bm _ _ a es => LvE P a ∧ LvEs P es
  | .lc _ _ elt _ it c => LvE P elt ∧ LvI P it ∧ LvM P c
  | _ => True
def LvEs (P : Str → FnSem → Prop) : MEs → Prop
  | .nil => True
  | .cons e es => LvE P e ∧ LvEs P es
def LvM (P : Str → FnSem → Prop) : MO → Prop
  | .none => True
  | .some e => LvE P e
def LvI (P : Str → FnSem → Prop) : MI → Prop
  | .exp e => LvE P e
  | .rng1 a => LvE P a
  | .rng2 a b => LvE P a ∧ LvE P b
  | .enum e => LvE P e
  | .zip a b => LvE P a ∧ LvE P b
  | .zip3 a b c => LvE P a ∧ LvE P b ∧ LvE P c
end

/-! ### rules of our own -/
section
variable {X : Cx} {cl : Nat → Addr} {B : List Nat}
def tRev (K : PySem.W.Frag) (cl : Nat → Addr) (B : List Nat) (m : Bool) (te : TE) : TE := fun σ H Q => te σ H fun x H1 => ∃ w d S Xc, Rep K w d x ∧ HR K cl B w H1 S ∧ oR K cl B (Rep K) (revD m d S) w Xc Q
theorem pe_revG {m : Bool} {e : Expr} {te : TE} {k : Nat} {p1 p2 p3 pos : Pos} (he : PE X e te) : PE X (.Subscript e (.Slice none none (some (.UnaryOp .USub (.Constant (.int 1) k p1) p2)) p3) pos) (tRev X.K cl B m te) := by
  refine ⟨fun pins s σ H Q I h => ?_⟩
  refine Subscript_ (thn (he.run pins s σ H _ I h) fun v s1 ⟨x, H1, I1, r1, q1⟩ => ?_)
  obtain ⟨w, d, S, Xc, rd, hr, q⟩ := q1
  have hst : PO X (some (.UnaryOp .USub (.Constant (.int 1) k p1) p2)) (tPart (tUn (rU fun i => .int (-i)) (tC (.int 1)))) := po_some (pe_un un_neg pe_int)
  have cont : ∀ {a : Addr}, v = .ref a → (∀ (s4 : Shared) (vs : Value), IsPart vs (some (-1)) → Inv X pins σ H1 s4 →
      wpAny (model X.prog X.w) X.A (subscriptTail e (.Slice none none (some (.UnaryOp .USub (.Constant (.int 1) k p1) p2)) p3) (.ref a) (.ref s4.heap.objs.size)) (EP X pins σ Q) X.xe { s4 with heap := s4.heap.push { cls := .type "slice", data := .fields #[.none, .none, vs] } }) →
      wpAny (model X.prog X.w) X.A (eval (.Slice none none (some (.UnaryOp .USub (.Constant (.int 1) k p1) p2)) p3) X.env) (fun iv s2 => wpAny (model X.prog X.w) X.A (subscriptTail e (.Slice none none (some (.UnaryOp .USub (.Constant (.int 1) k p1) p2)) p3) v iv) (EP X pins σ Q) X.xe s2) X.xe s1 := fun {a} ev h => by
    subst ev
    refine wpAny_Slice (thn (po_none.run pins s1 σ H1 (fun o H2 => o = none ∧ H2 = H1) I1 ⟨rfl, rfl⟩) fun vl s2 ⟨l, H2, I2, pl, el, e2⟩ => ?_)
    subst el e2
    refine thn (po_none.run pins s2 σ H2 (fun o H3 => o = none ∧ H3 = H2) I2 ⟨rfl, rfl⟩) fun vu s3 ⟨u, H3, I3, pu, eu, e3⟩ => ?_
    subst eu e3
    refine thn (hst.run pins s3 σ H3 (fun o H4 => o = some (-1) ∧ H4 = H3) I3 ⟨1, rfl, -1, rfl, rfl, rfl⟩) fun vs s4 ⟨o, H4, I4, ps, eo, e4⟩ => ?_
    subst eo e4
    cases pl
    cases pu
    exact h s4 vs ps I4
  unfold revD at q
  split at q
  · obtain ⟨a, xs, rfl, i, rs⟩ := rep_tup rd
    cases r1
    refine cont rfl fun s4 vs ps I4 => ?_
    have I5 : Inv X pins σ H1 { s4 with heap := s4.heap.push { cls := .type "slice", data := .fields #[.none, .none, vs] } } := I4.kept (t' := s4.toks) fun b ob q => Heap.get?_push_of_some _ q
    obtain ⟨its, r, ht, hz⟩ := I5.tuple (SqT.of (hr.sqT i))
    have hlen := r.length
    refine tail_any (ops := [.ref a, .ref s4.heap.objs.size]) ht.typeIs (PyProof.Rows.slot_tuple_getitem.lookup) ?_ (by with_unfolding_all rfl)
    refine getItem_tuple_rev ht (Heap.IsSliceOf.new _ .none .none vs) ps ?_ (by rw [List.size_toArray]; omega)
    refine ⟨.ref _, _, I5.laid (t' := s4.toks) (o := .tup xs.reverse) (fun b ob q => Heap.get?_push_of_some _ q) (Nat.le_refl _) ?_, rfl, new_tup hr rs.reverse q _ (I5.hok.fresh (Nat.le_refl _))⟩
    exact ⟨by rw [List.length_reverse]; exact hz, its.reverse, r.reverse, ⟨_, Heap.get?_push_size _ rfl, rfl, _, rfl⟩⟩
  · split at q
    · rename_i ds e1
      obtain ⟨a, xs, rfl, hx, rs⟩ := lst_of hr e1 rd
      cases r1
      refine cont rfl fun s4 vs ps I4 => ?_
      have I5 : Inv X pins σ H1 { s4 with heap := s4.heap.push { cls := .type "slice", data := .fields #[.none, .none, vs] } } := I4.kept (t' := s4.toks) fun b ob q => Heap.get?_push_of_some _ q
      obtain ⟨its, r, ht, hz⟩ := I5.list (SqL.of hx)
      have hlen := r.length
      refine tail_any (ops := [.ref a, .ref s4.heap.objs.size]) ht.isList.typeIs (PySem.slot_list_getitem.lookup) ?_ (by with_unfolding_all rfl)
      refine wpAny_getItem_list_slice ht.isList (Heap.IsSliceOf.new _ .none .none vs) .none .none ps (by decide) ?_ (by rw [List.size_toArray]; omega)
      rw [PySem.W.krv_pick]
      refine ⟨.ref _, _, I5.laid (t' := s4.toks) (o := .lst xs.reverse) (fun b ob q => Heap.get?_push_of_some _ q) (Nat.le_refl _) ?_, rfl, (new_lst hr rs.reverse q).2 _ (I5.hok.fresh (Nat.le_refl _))⟩
      exact ⟨by rw [List.length_reverse]; exact hz, _, 0, r.reverse, Heap.get?_push_size _ rfl⟩
    · exact q.elim

theorem boot_bi (b : Bi) : bootBuiltins (biN b) = some (biV b) := by cases b <;> decide +kernel
theorem boot_ty (t : Ty) : bootBuiltins (tyS t) = some (.type (tyN t)) := by cases t <;> decide +kernel
theorem biN_ne (b : Bi) : biN b ≠ ("__name__" : Str) := by cases b <;> decide
theorem tyS_ne (b : Ty) : tyS b ≠ ("__name__" : Str) := by cases b <;> decide
theorem biN_mem (b : Bi) : biN b ∈ bNames := by cases b <;> decide
theorem tyS_mem (b : Ty) : tyS b ∈ bNames := by cases b <;> decide
/-- a built-in function or class called -/
theorem pe_bi {bi : Bi} {e : Expr} {es : List Expr} {p pos : Pos} {t : TA} {r : List V → Hp → VK → Prop} (hc : CallR X (biV bi) r) (hg : Gl X (biN bi)) (hm : X.mg (biN bi) = none) (ha : PA X (e :: es) t)
    (hdb : (biN bi == ("__debug__" : Str)) = false) (he : starEach (e :: es) X.env = (false, eval e X.env) :: starEach es X.env) (hpl : (backTo pos (starEach es X.env)).any (·.1) = false) : PE X (.Call (.Name (biN bi) p) (e :: es) [] pos) (tCB r t) := by
  have hv := boot_bi bi
  have hn := biN_ne bi
  cases bi with
  | int => exact pe_callTy hc hg hm hv ha hn hdb he hpl
  | str => exact pe_callTy hc hg hm hv ha hn hdb he hpl
  | tuple => exact pe_callTy hc hg hm hv ha hn hdb he hpl
  | list => exact pe_callTy hc hg hm hv ha hn hdb he hpl
  | len => exact pe_callB hc hg hm hv ha hn hdb he hpl
  | abs => exact pe_callB hc hg hm hv ha hn hdb he hpl
  | max => exact pe_callB hc hg hm hv ha hn hdb he hpl
  | min => exact pe_callB hc hg hm hv ha hn hdb he hpl
  | sum => exact pe_callB hc hg hm hv ha hn hdb he hpl
  | all => exact pe_callB hc hg hm hv ha hn hdb he hpl
  | any => exact pe_callB hc hg hm hv ha hn hdb he hpl
/-- names as a for's or a comprehension's target -/
def gPat (K : PySem.W.Frag) : Pat → TG
  | .one i => gName i
  | .tup is => gTup K is.length (is.foldr (fun i t => gCons (gName i) t) gNil)
theorem chkP1_pg {sc : Scope} {i : Nat} {e : Expr} (hN : X.N.Nodup) (h : chkP1 X.N sc i e = true) (hl : ∀ x, Loc sc x → Loc X.env.scope x) (hf : ∀ x, Loc sc x → X.fn x = true ∨ X.env.scope.names.lookup x = some .local) : PG X e (gName i) ∧ ∀ es, (assignEach (e :: es) X.env) = (false, assign e X.env) :: assignEach es X.env := by
  unfold chkP1 at h
  split at h
  · rename_i x p
    rw [Bool.and_eq_true] at h
    have l := loc_of h.2
    exact ⟨pg_name hN (of_decide_eq_true h.1) (hl x l) (hf x l), fun es => rfl⟩
  · cases h
theorem chkPs_pg {sc : Scope} (hN : X.N.Nodup) (hl : ∀ x, Loc sc x → Loc X.env.scope x) (hf : ∀ x, Loc sc x → X.fn x = true ∨ X.env.scope.names.lookup x = some .local) : ∀ {is : List Nat} {es : List Expr}, chkPs X.N sc is es = true →
    PGs X es (is.foldr (fun i t => gCons (gName i) t) gNil) ∧ (assignEach es X.env).length = is.length ∧ (assignEach es X.env).findIdx? (·.1) = none
  | [], [], _ => ⟨pgs_nil, rfl, rfl⟩
  | [], _ :: _, h => by simp [chkPs] at h
  | _ :: _, [], h => by simp [chkPs] at h
  | i :: is, e :: es, h => by
    simp only [chkPs, Bool.and_eq_true] at h
    obtain ⟨h1, h2⟩ := chkP1_pg hN h.1 hl hf
    obtain ⟨h3, h4, h5⟩ := chkPs_pg hN hl hf h.2
    refine ⟨pgs_cons h1 h3 (by rw [h2]; rfl), by rw [h2, List.length_cons, h4]; rfl, ?_⟩
    rw [h2, List.findIdx?_cons]
    simp [h5]
theorem chkP_pg {sc : Scope} {p : Pat} {e : Expr} (hN : X.N.Nodup) (hc : X.calm = true) (h : chkP X.N sc p e = true) (hl : ∀ x, Loc sc x → Loc X.env.scope x) (hf : ∀ x, Loc sc x → X.fn x = true ∨ X.env.scope.names.lookup x = some .local) : PG X e (gPat X.K p) := by
  cases p with
  | one i => exact (chkP1_pg hN h hl hf).1
  | tup is =>
    cases e with
    | Tuple es k pos =>
      obtain ⟨h3, h4, h5⟩ := chkPs_pg hN hl hf (show chkPs X.N sc is es = true from h)
      exact pg_tup hc h3 h4 h5
    | _ => simp [chkP] at h
end
end Mn

/-! Mini: SOUNDNESS of expressions, each kind by itself. -/
namespace Mn
open PySem PySem.Spec PyProof.Rows L2

section
variable (K : PySem.W.Frag) (cl xa : Nat → Addr) (B : List Nat) (b : Nat) (W : WX)
def tAn (m : MEs) : TE := fun σ H Q => ∃ w ρ S, EnvR K w ρ σ ∧ HR K cl B w H S ∧ oR K cl B (Rep K) (evA b m ρ S) w (xc xa W σ) Q
def tRn (m : MEs) : TE := fun σ H Q => ∃ w ρ S, EnvR K w ρ σ ∧ HR K cl B w H S ∧ oR K cl B (Rep K) (evR b m ρ S) w (xc xa W σ) Q
def intR (d : Option D) (S : Store) : Res (Option D) := if (intO d).isSome then .ok d S else .stuck
def tO (m : MO) : TO := fun σ H Q => ∃ w ρ S, EnvR K w ρ σ ∧ HR K cl B w H S ∧ oR K cl B (fun _ d o => intO d = some o) ((evO b m ρ S).bind intR) w (xc xa W σ) Q
def tF (m : MO) : TT := fun σ H Q => ∃ w ρ S, EnvR K w ρ σ ∧ HR K cl B w H S ∧ oR K cl B eqR ((evO b m ρ S).bind truO) w (xc xa W σ) Q
end
abbrev Lv (X : Cx) (cl xa : Nat → Addr) (k : Nat) : Str → FnSem → Prop := FnAt X.prog X.w X.K X.mg X.base cl xa k
def OkE (m : ME) : Prop := ∀ {X : Cx} {cl xa : Nat → Addr} {B : List Nat} {b : Nat} {W : WX} {k : Nat} {sc : Scope} {e : Expr}, Good X cl xa B b W k sc → chkE X.N sc m e = true → LvE (Lv X cl xa k) m → PE X e (tE X.K cl xa B b W m)
def OkT (m : ME) : Prop := ∀ {X : Cx} {cl xa : Nat → Addr} {B : List Nat} {b : Nat} {W : WX} {k : Nat} {sc : Scope} {e : Expr}, Good X cl xa B b W k sc → chkE X.N sc m e = true → tOk m = true → LvE (Lv X cl xa k) m → PT X e (tT X.K cl xa B b W m)
def OkEs (m : MEs) : Prop := ∀ {X : Cx} {cl xa : Nat → Addr} {B : List Nat} {b : Nat} {W : WX} {k : Nat} {sc : Scope} {es : List Expr}, Good X cl xa B b W k sc → chkEs X.N sc m es = true → LvEs (Lv X cl xa k) m → PA X es (tEs X.K cl xa B b W m)
def OkA (m : MEs) : Prop := ∀ {X : Cx} {cl xa : Nat → Addr} {B : List Nat} {b : Nat} {W : WX} {k : Nat} {sc : Scope} {es : List Expr} {pos : Pos}, Good X cl xa B b W k sc → chkEs X.N sc m es = true → LvEs (Lv X cl xa k) m → es ≠ [] → PE X (.BoolOp .And es pos) (tAn X.K cl xa B b W m)
def OkR (m : MEs) : Prop := ∀ {X : Cx} {cl xa : Nat → Addr} {B : List Nat} {b : Nat} {W : WX} {k : Nat} {sc : Scope} {es : List Expr} {pos : Pos}, Good X cl xa B b W k sc → chkEs X.N sc m es = true → LvEs (Lv X cl xa k) m → es ≠ [] → PE X (.BoolOp .Or es pos) (tRn X.K cl xa B b W m)
def OkTA (m : MEs) : Prop := ∀ {X : Cx} {cl xa : Nat → Addr} {B : List Nat} {b : Nat} {W : WX} {k : Nat} {sc : Scope} {es : List Expr} {pos : Pos}, Good X cl xa B b W k sc → chkEs X.N sc m es = true → tOks m = true → LvEs (Lv X cl xa k) m → es ≠ [] → PW X (.BoolOp .And es pos) (tTs X.K cl xa B b W m evA)
def OkTR (m : MEs) : Prop := ∀ {X : Cx} {cl xa : Nat → Addr} {B : List Nat} {b : Nat} {W : WX} {k : Nat} {sc : Scope} {es : List Expr} {pos : Pos}, Good X cl xa B b W k sc → chkEs X.N sc m es = true → tOks m = true → LvEs (Lv X cl xa k) m → es ≠ [] → PW X (.BoolOp .Or es pos) (tTs X.K cl xa B b W m evR)
def OkO (m : MO) : Prop := ∀ {X : Cx} {cl xa : Nat → Addr} {B : List Nat} {b : Nat} {W : WX} {k : Nat} {sc : Scope} {e : Option Expr}, Good X cl xa B b W k sc → chkM X.N sc m e = true → LvM (Lv X cl xa k) m → PO X e (tO X.K cl xa B b W m)
def OkF (m : MO) : Prop := ∀ {X : Cx} {cl xa : Nat → Addr} {B : List Nat} {b : Nat} {W : WX} {k : Nat} {sc : Scope} {es : List Expr}, Good X cl xa B b W k sc → chkF X.N sc m es = true → LvM (Lv X cl xa k) m → PTs X es (tF X.K cl xa B b W m)
def OkI (m : MI) : Prop := ∀ {X : Cx} {cl xa : Nat → Addr} {B : List Nat} {b : Nat} {W : WX} {k : Nat} {sc : Scope} {tg e : Expr}, Good X cl xa B b W k sc → chkI X.N sc m (isTup tg) e = true → LvI (Lv X cl xa k) m → PI X tg e (tI X.K cl xa B b W m) ∧ ∀ x, foldedSetIterable e X.env x = pure x

section
variable {X : Cx} {cl xa : Nat → Addr} {B : List Nat} {b : Nat} {W : WX} {k : Nat} {sc : Scope}
theorem Good.vis (G : Good X cl xa B b W k sc) {x : Str} (h : visB sc x = true) : Vis X.env.scope x := by rw [G.hsc]; exact vis_of h
theorem Good.gl (G : Good X cl xa B b W k sc) {x : Str} (h : glB sc x = true) : Gl X x ∧ (x == ("__debug__" : Str)) = false := ⟨by show X.env.scope.names.lookup x = _; rw [G.hsc]; exact (gl_of h).1, (gl_of h).2⟩
theorem Good.hu (G : Good X cl xa B b W k sc) : X.A.units + 64 < cLine := by have := G.room.un; omega
theorem chkV_pe (G : Good X cl xa B b W k sc) {i : Nat} {x : Str} {p : Pos} (h : chkV X.N sc i x = true) : PE X (.Name x p) (tVar i) := by
  unfold chkV okN at h
  simp only [Bool.and_eq_true, decide_eq_true_eq, Bool.not_eq_true'] at h
  exact pe_var h.1.1 (G.vis h.1.2) h.2.1 h.2.2

theorem ok_var {i : Nat} : OkE (.var i) := fun {X cl xa B b W k sc e} G h lv => by
  cases e with
  | Name x p =>
    simp only [chkE] at h
    refine (chkV_pe G h).imp fun σ H Q ⟨w, ρ, S, he, hr, q⟩ => ?_
    simp only [evE] at q
    split at q
    · rename_i d hd
      obtain ⟨v, h1, h2⟩ := he.2 i d hd
      exact ⟨v, h1, out_d hr h2 q⟩
    · exact q.elim
  | _ => simp [chkE] at h
theorem ok_frz {i : Nat} : OkE (.frz i) := fun {X cl xa B b W k sc e} G h lv => by
  cases e with
  | Name x p =>
    simp only [chkE] at h
    refine (chkV_pe G h).imp fun σ H Q ⟨w, ρ, S, he, hr, q⟩ => ?_
    simp only [evE] at q
    split at q
    · rename_i n hd
      obtain ⟨v, h1, h2⟩ := he.2 i _ hd
      simp only [Rep] at h2
      obtain ⟨a, rfl, ha⟩ := h2
      refine ⟨_, h1, ?_⟩
      split at q
      · rename_i ds hs
        obtain ⟨vs, q1, q2, q3⟩ := hr.cel _ _ _ ha hs
        have le := Wd.le_imm (q := (Kd.l, vs)) q3
        refine q _ _ H le ?_ (hr.frz1 ha hs q1 q2 q3)
        simp only [Rep]
        exact ⟨a, vs, rfl, if_pos rfl, q2.mono le⟩
      · rename_i ds hs
        obtain ⟨vs, q1, q2⟩ := hr.cel _ _ _ ha hs
        refine q w _ H (.refl _) ?_ hr
        simp only [Rep]
        exact ⟨a, vs, rfl, q1, q2⟩
      · exact q.elim
    · exact q.elim
  | _ => simp [chkE] at h
theorem ok_cst {d : D} : OkE (.cst d) := fun {X cl xa B b W k sc e} G h lv => by
  cases e with
  | Constant c j p =>
    simp only [chkE] at h
    cases d with
    | non =>
      cases c with
      | none => exact pe_non.imp fun σ H Q ⟨w, ρ, S, he, hr, q⟩ => by simp only [evE] at q; exact out_d hr (by simp [Rep]) q
      | _ => simp [chkC] at h
    | bl x =>
      cases c with
      | bool y =>
        have e : x = y := by simpa [chkC] using h
        subst e
        exact pe_bl.imp fun σ H Q ⟨w, ρ, S, he, hr, q⟩ => by simp only [evE] at q; exact out_d hr (by simp [Rep]) q
      | _ => simp [chkC] at h
    | int x =>
      cases c with
      | int y =>
        have e : x = y := by simpa [chkC] using h
        subst e
        exact pe_int.imp fun σ H Q ⟨w, ρ, S, he, hr, q⟩ => by simp only [evE] at q; exact out_d hr (by simp [Rep]) q
      | _ => simp [chkC] at h
    | str x =>
      cases c with
      | str y =>
        have e : x = y := by simpa [chkC] using h
        subst e
        exact pe_str.imp fun σ H Q ⟨w, ρ, S, he, hr, q⟩ => by simp only [evE] at q; exact out_d hr (by simp [Rep]) q
      | _ => simp [chkC] at h
    | _ => cases c <;> simp [chkC] at h
  | _ => simp [chkE] at h
theorem ok_tup {es : MEs} (ih : OkEs es) : OkE (.tup es) := fun {X cl xa B b W k sc e} G h lv => by
  cases e with
  | Tuple xs j p =>
    simp only [chkE] at h
    refine (pe_tup (ih G h lv)).imp fun σ H Q ⟨w, ρ, S, he, hr, q⟩ => ?_
    simp only [evE] at q
    exact (tEs_bind he hr q).imp fun xs H1 ⟨w1, ds, S1, l1, rs, hr1, q1⟩ => new_tupT hr1 rs q1
  | _ => simp [chkE] at h
theorem ok_lst {m : Bool} {es : MEs} (ih : OkEs es) : OkE (.lst m es) := fun {X cl xa B b W k sc e} G h lv => by
  cases e with
  | List xs p =>
    simp only [chkE] at h
    refine (pe_lst (ih G h lv)).imp fun σ H Q ⟨w, ρ, S, he, hr, q⟩ => ?_
    simp only [evE] at q
    exact (tEs_bind he hr q).imp fun xs H1 ⟨w1, ds, S1, l1, rs, hr1, q1⟩ => new_lst hr1 rs q1
  | _ => simp [chkE] at h
theorem ok_bin {m : Bool} {o : Bop} {x y : ME} (i1 : OkE x) (i2 : OkE y) : OkE (.bin m o x y) := fun {X cl xa B b W k sc e} G h lv => by
  cases e with
  | BinOp l op r p =>
    simp only [chkE, Bool.and_eq_true, decide_eq_true_eq] at h
    obtain ⟨⟨rfl, h1⟩, h2⟩ := h
    refine (pe_op (op_bin (cl := cl) (B := B) m o) (i1 G h1 lv.1) (i2 G h2 lv.2)).imp fun σ H Q ⟨w, ρ, S, he, hr, q⟩ => ?_
    simp only [evE] at q
    exact (tE_bind he hr q).imp fun x H1 ⟨w1, d, S1, l1, r1, hr1, q1⟩ => (tE_bind (he.mono l1.ex) hr1 q1).imp fun y H2 ⟨w2, e, S2, l2, r2, hr2, q2⟩ => ⟨w2, S2, d, e, _, r1.mono l2, r2, hr2, q2⟩
  | _ => simp [chkE] at h
theorem ok_neg {x : ME} (i1 : OkE x) : OkE (.neg x) := fun {X cl xa B b W k sc e} G h lv => by
  cases e with
  | UnaryOp op r p =>
    cases op with
    | USub =>
      simp only [chkE] at h
      refine (pe_un un_neg (i1 G h lv)).imp fun σ H Q ⟨w, ρ, S, he, hr, q⟩ => ?_
      simp only [evE] at q
      refine (tE_bind he hr q).imp fun x H1 ⟨w1, d, S1, l1, r1, hr1, q1⟩ => ?_
      split at q1
      · rw [rep_int r1]
        exact ⟨_, rfl, out_int hr1 q1⟩
      · exact q1.elim
    | _ => simp [chkE] at h
  | _ => simp [chkE] at h
theorem ok_not {x : ME} (i1 : OkE x) : OkE (.not_ x) := fun {X cl xa B b W k sc e} G h lv => by
  cases e with
  | UnaryOp op r p =>
    cases op with
    | Not =>
      simp only [chkE] at h
      refine (pe_notT (i1 G h lv)).imp fun σ H Q ⟨w, ρ, S, he, hr, q⟩ => ?_
      simp only [evE] at q
      refine (tE_bind he hr q).imp fun x H1 ⟨w1, d, S1, l1, r1, hr1, q1⟩ => ?_
      split at q1
      · rename_i j hj
        exact ⟨j, tru_of hr1 r1 hj, out_bl hr1 q1⟩
      · exact q1.elim
    | _ => simp [chkE] at h
  | _ => simp [chkE] at h
theorem ok_cmp {o : Cop} {x y : ME} (i1 : OkE x) (i2 : OkE y) : OkE (.cmp o x y) := fun {X cl xa B b W k sc e} G h lv => by
  cases e with
  | Compare l ops rs p =>
    match ops, rs, h with
    | [op], [r], h =>
      simp only [chkE, Bool.and_eq_true, decide_eq_true_eq] at h
      obtain ⟨⟨rfl, h1⟩, h2⟩ := h
      refine (pe_cmpR (op_cmp (cl := cl) (B := B) G.hu o) (i1 G h1 lv.1) (i2 G h2 lv.2) (nomarks (chk_odd h2) _)).imp fun σ H Q ⟨w, ρ, S, he, hr, q⟩ => ?_
      simp only [evE] at q
      exact (tE_bind he hr q).imp fun x H1 ⟨w1, d, S1, l1, r1, hr1, q1⟩ => (tE_bind (he.mono l1.ex) hr1 q1).imp fun y H2 ⟨w2, e, S2, l2, r2, hr2, q2⟩ => ⟨w2, S2, d, e, _, r1.mono l2, r2, hr2, q2⟩
    | [], _, h => simp [chkE] at h
    | _ :: _ :: _, _, h => simp [chkE] at h
    | [_], [], h => simp [chkE] at h
    | [_], _ :: _ :: _, h => simp [chkE] at h
  | _ => simp [chkE] at h
theorem lastMarks2 {op op' : CmpOp} {b c : Expr} (h1 : oddE b = false) (h2 : oddE c = false) : lastMarks [op, op'] [b, c] = false := by
  cases c with
  | Set => simp [oddE] at h2
  | _ => first | rfl | simp [lastMarks, behindInMarks]
theorem ok_chain {o o' : Cop} {x y z : ME} (i1 : OkE x) (i2 : OkE y) (i3 : OkE z) : OkE (.chain o o' x y z) := fun {X cl xa B b W k sc e} G h lv => by
  cases e with
  | Compare l ops rs p =>
    match ops, rs, h with
    | [op, op'], [r, r'], h =>
      simp only [chkE, Bool.and_eq_true, decide_eq_true_eq] at h
      obtain ⟨⟨⟨⟨rfl, rfl⟩, h1⟩, h2⟩, h3⟩ := h
      refine (pe_chain (op_cmp (cl := cl) (B := B) G.hu o) (op_cmp (cl := cl) (B := B) G.hu o') (i1 G h1 lv.1) (i2 G h2 lv.2.1) (i3 G h3 lv.2.2) (lastMarks2 (chk_odd h2) (chk_odd h3))).imp fun σ H Q ⟨w, ρ, S, he, hr, q⟩ => ?_
      simp only [evE] at q
      refine (tE_bind he hr q).imp fun x H1 ⟨w1, d, S1, l1, r1, hr1, q1⟩ => (tE_bind (he.mono l1.ex) hr1 q1).imp fun y H2 ⟨w2, e, S2, l2, r2, hr2, q2⟩ => ⟨w2, S2, d, e, xc xa W σ, r1.mono l2, r2, hr2, ?_⟩
      refine (q2.bind (R := Rep X.K)).imp fun z H3 ⟨w3, f, S3, l3, r3, hr3, q3⟩ => ?_
      split at q3
      · refine ⟨true, rep_bl r3, ?_⟩
        rw [if_pos rfl]
        exact (tE_bind (he.mono ((l1.trans l2).trans l3).ex) hr3 q3).imp fun u H4 ⟨w4, g, S4, l4, r4, hr4, q4⟩ => ⟨w4, S4, e, g, _, r2.mono (l3.trans l4), r4, hr4, q4⟩
      · refine ⟨false, rep_bl r3, ?_⟩
        rw [if_neg (by decide)]
        exact out_bl hr3 q3
      · exact q3.elim
    | [], _, h => simp [chkE] at h
    | [_], _, h => simp [chkE] at h
    | _ :: _ :: _ :: _, _, h => simp [chkE] at h
    | [_, _], [], h => simp [chkE] at h
    | [_, _], [_], h => simp [chkE] at h
    | [_, _], _ :: _ :: _ :: _, h => simp [chkE] at h
  | _ => simp [chkE] at h
theorem ok_and {es : MEs} (ih : OkA es) : OkE (.and_ es) := fun {X cl xa B b W k sc e} G h lv => by
  cases e with
  | BoolOp op xs p =>
    cases op with
    | And =>
      cases xs with
      | nil => simp [chkE] at h
      | cons x xs =>
        simp only [chkE] at h
        refine (ih G h lv (by simp)).imp fun σ H Q ⟨w, ρ, S, he, hr, q⟩ => ?_
        simp only [evE] at q
        exact ⟨w, ρ, S, he, hr, q⟩
    | _ => simp [chkE] at h
  | _ => simp [chkE] at h
theorem ok_or {es : MEs} (ih : OkR es) : OkE (.or_ es) := fun {X cl xa B b W k sc e} G h lv => by
  cases e with
  | BoolOp op xs p =>
    cases op with
    | Or =>
      cases xs with
      | nil => simp [chkE] at h
      | cons x xs =>
        simp only [chkE] at h
        refine (ih G h lv (by simp)).imp fun σ H Q ⟨w, ρ, S, he, hr, q⟩ => ?_
        simp only [evE] at q
        exact ⟨w, ρ, S, he, hr, q⟩
    | _ => simp [chkE] at h
  | _ => simp [chkE] at h
theorem tT_of {m : ME} {σ : L2.St} {H : Hp} {Q : VK} {α : Type} {R : Wd → α → V → Prop} {K : PySem.W.Frag} {w : Wd} {ρ : Env} {S : Store} {f : Bool → Store → Res α} (he : EnvR K w ρ σ) (hr : HR K cl B w H S)
    (q : oR K cl B R ((evE b m ρ S).bind fun d S1 => (tru1 d S1).bind f) w (xc xa W σ) Q) : oR K cl B R (((evE b m ρ S).bind tru1).bind f) w (xc xa W σ) Q := by
  cases e : evE b m ρ S with
  | ok d S1 => rw [e] at q; exact q
  | exc c S1 => rw [e] at q; exact q
  | stuck => rw [e] at q; exact q
theorem ok_ite {c x y : ME} (i0 : OkT c) (i1 : OkE x) (i2 : OkE y) : OkE (.ite c x y) := fun {X cl xa B b W k sc e} G h lv => by
  cases e with
  | IfExp t l r p =>
    simp only [chkE, Bool.and_eq_true] at h
    obtain ⟨⟨⟨h0, h1⟩, h2⟩, h3⟩ := h
    refine (pe_ifExp (i0 G h1 h0 lv.1) (i1 G h2 lv.2.1) (i2 G h3 lv.2.2)).imp fun σ H Q ⟨w, ρ, S, he, hr, q⟩ => ?_
    simp only [evE] at q
    have q' : oR X.K cl B (Rep X.K) (((evE b c ρ S).bind tru1).bind fun t S1 => if t then evE b x ρ S1 else evE b y ρ S1) w (xc xa W σ) Q := by
      refine tT_of he hr ?_
      have e : (fun d S1 => (tru1 d S1).bind fun t S1 => if t then evE b x ρ S1 else evE b y ρ S1) = fun d S1 => (match truD S1 d with
        | some true => evE b x ρ S1
        | some false => evE b y ρ S1
        | none => .stuck) := by
        funext d S1
        unfold tru1
        cases truD S1 d with
        | none => rfl
        | some t => cases t <;> rfl
      rw [e]; exact q
    obtain ⟨w1, ρ1, S1, he1, hr1, q1⟩ := tT_bind he hr q'
    refine ⟨w1, ρ1, S1, he1, hr1, q1.imp fun t H1 ⟨w2, S2, l2, hr2, q2⟩ => ?_⟩
    cases t with
    | true => rw [if_pos rfl] at q2 ⊢; exact ⟨w2, ρ, S2, he.mono l2.ex, hr2, q2⟩
    | false => rw [if_neg (by decide)] at q2 ⊢; exact ⟨w2, ρ, S2, he.mono l2.ex, hr2, q2⟩
  | _ => simp [chkE] at h
theorem ok_ix {x y : ME} (i1 : OkE x) (i2 : OkE y) : OkE (.ix x y) := fun {X cl xa B b W k sc e} G h lv => by
  cases e with
  | Subscript l r p =>
    simp only [chkE, Bool.and_eq_true] at h
    refine (pe_ix (ix_ok (cl := cl) (B := B)) (i1 G h.1 lv.1) (i2 G h.2 lv.2) (plain_ix (chk_odd h.2))).imp fun σ H Q ⟨w, ρ, S, he, hr, q⟩ => ?_
    simp only [evE] at q
    exact (tE_bind he hr q).imp fun x H1 ⟨w1, d, S1, l1, r1, hr1, q1⟩ => (tE_bind (he.mono l1.ex) hr1 q1).imp fun y H2 ⟨w2, e, S2, l2, r2, hr2, q2⟩ => ⟨w2, S2, d, e, _, r1.mono l2, r2, hr2, q2⟩
  | _ => simp [chkE] at h
theorem ok_rev {m : Bool} {x : ME} (i1 : OkE x) : OkE (.rev m x) := fun {X cl xa B b W k sc e} G h lv => by
  simp only [chkE] at h
  split at h
  · refine (pe_revG (cl := cl) (B := B) (m := m) (i1 G h lv)).imp fun σ H Q ⟨w, ρ, S, he, hr, q⟩ => ?_
    simp only [evE] at q
    exact (tE_bind he hr q).imp fun x H1 ⟨w1, d, S1, l1, r1, hr1, q1⟩ => ⟨w1, d, S1, _, r1, hr1, q1⟩
  · cases h
theorem ok_sl {m : Bool} {x : ME} {lo hi : MO} (i1 : OkE x) (i2 : OkO lo) (i3 : OkO hi) : OkE (.sl m x lo hi) := fun {X cl xa B b W k sc e} G h lv => by
  simp only [chkE] at h
  split at h
  · simp only [Bool.and_eq_true] at h
    refine (pe_slice (sl_ok (cl := cl) (B := B) m) (i1 G h.1.1 lv.1) (i2 G h.1.2 lv.2.1) (i3 G h.2 lv.2.2)).imp fun σ H Q ⟨w, ρ, S, he, hr, q⟩ => ?_
    simp only [evE] at q
    refine (tE_bind he hr q).imp fun x H1 ⟨w1, d, S1, l1, r1, hr1, q1⟩ => ?_
    have q1' : oR X.K cl B (Rep X.K) (((evO b lo ρ S1).bind intR).bind fun l S2 => ((evO b hi ρ S2).bind intR).bind fun h S3 => slD m d l h S3) w1 (xc xa W σ) Q := by
      cases e1 : evO b lo ρ S1 with
      | ok l S2 =>
        rw [e1] at q1
        have q1 : oR X.K cl B (Rep X.K) (if (intO l).isSome then (evO b hi ρ S2).bind fun h S3 => slD m d l h S3 else .stuck) w1 (xc xa W σ) Q := q1
        show oR X.K cl B (Rep X.K) ((intR l S2).bind _) w1 (xc xa W σ) Q
        unfold intR
        split at q1
        · rename_i hl
          rw [if_pos hl]
          show oR X.K cl B (Rep X.K) (((evO b hi ρ S2).bind intR).bind _) w1 (xc xa W σ) Q
          cases e2 : evO b hi ρ S2 with
          | ok h S3 =>
            rw [e2] at q1
            have q1 : oR X.K cl B (Rep X.K) (slD m d l h S3) w1 (xc xa W σ) Q := q1
            show oR X.K cl B (Rep X.K) ((intR h S3).bind _) w1 (xc xa W σ) Q
            unfold intR
            by_cases hh : (intO h).isSome = true
            · rw [if_pos hh]; exact q1
            · exfalso
              unfold slD at q1
              cases e3 : intO h with
              | some o => rw [e3] at hh; exact hh rfl
              | none => rw [e3] at q1; cases e4 : intO l <;> (rw [e4] at q1; exact q1)
          | exc c S3 => rw [e2] at q1; exact q1
          | stuck => rw [e2] at q1; exact q1
        · exact q1.elim
      | exc c S2 => rw [e1] at q1; exact q1
      | stuck => rw [e1] at q1; exact q1
    refine ⟨w1, ρ, S1, he.mono l1.ex, hr1, q1'.bind.imp fun lo' H2 ⟨w2, l, S2, l2, e2, hr2, q2⟩ => ?_⟩
    refine ⟨w2, ρ, S2, he.mono (l1.trans l2).ex, hr2, q2.bind.imp fun hi' H3 ⟨w3, h', S3, l3, e3, hr3, q3⟩ => ?_⟩
    exact ⟨w3, S3, d, l, h', _, r1.mono (l2.trans l3), e2, e3, hr3, q3⟩
  · cases h
theorem fn_call {x : Str} {g : FnSem} (hf : FnAt X.prog X.w X.K X.mg X.base cl xa k x g) (G : Good X cl xa B b W k sc) {p pos : Pos} {e : Expr} {es : List Expr} {ms : MEs} (hg : glB sc x = true) (hc : chkEs X.N sc ms (e :: es) = true)
    (ha : PA X (e :: es) (tEs X.K cl xa B b W ms)) : PE X (.Call (.Name x p) (e :: es) [] pos) (fun σ H Q => tEs X.K cl xa B b W ms σ H fun vs H1 => ∃ w ds S, Reps X.K w ds vs ∧ HR X.K cl B w H1 S ∧ oR X.K cl B (Rep X.K) (g b ds S) w (xc xa W σ) Q) := by
  obtain ⟨f, fd, ps, F, hm, hk, hb, hst⟩ := hf.ex
  have h1 : chkE X.N sc (match ms with | .cons m _ => m | .nil => .var 0) e = true ∧ ∃ ms', chkEs X.N sc ms' es = true := by
    cases ms with
    | nil => simp [chkEs] at hc
    | cons m ms => simp only [chkEs, Bool.and_eq_true] at hc; exact ⟨hc.1, ms, hc.2⟩
  obtain ⟨h2, ms', h3⟩ := h1
  refine (pe_callS F G.room (G.gl hg).1 hm hk hb (passAt G.tk) ha (G.gl hg).2 (star_of (chk_odd h2) es _) (stars_none h3 pos _)).imp fun σ H Q q => ?_
  refine q.imp fun vs H1 ⟨w, ds, S, rs, hr, q1⟩ => ?_
  refine ⟨?_, B, b, w, S, ds, G.hB, hr, rs, q1⟩
  rw [rs.length]
  by_cases hl : ds.length = ps.length
  · exact hl
  · rw [hst b ds S hl] at q1
    exact q1.elim
theorem ok_call {x : Str} {g : FnSem} {es : MEs} (ih : OkEs es) : OkE (.call x g es) := fun {X cl xa B b W k sc e} G h lv => by
  simp only [chkE] at h
  split at h
  · simp only [Bool.and_eq_true, decide_eq_true_eq] at h
    obtain ⟨⟨rfl, h1⟩, h2⟩ := h
    refine (fn_call lv.1 G h1 h2 (ih G h2 lv.2)).imp fun σ H Q ⟨w, ρ, S, he, hr, q⟩ => ?_
    simp only [evE] at q
    exact (tEs_bind he hr q).imp fun xs H1 ⟨w1, ds, S1, l1, rs, hr1, q1⟩ => ⟨w1, ds, S1, rs, hr1, q1⟩
  · cases h
theorem cons_chk {N : List Str} {ms : MEs} {e : Expr} {es : List Expr} (hc : chkEs N sc ms (e :: es) = true) : oddE e = false ∧ ∃ ms', chkEs N sc ms' es = true := by
  cases ms with
  | nil => simp [chkEs] at hc
  | cons m ms => simp only [chkEs, Bool.and_eq_true] at hc; exact ⟨chk_odd hc.1, ms, hc.2⟩
theorem ok_bi {m : Bool} {o : Bi} {es : MEs} (ih : OkEs es) : OkE (.bi m o es) := fun {X cl xa B b W k sc e} G h lv => by
  simp only [chkE] at h
  split at h
  · simp only [Bool.and_eq_true, decide_eq_true_eq] at h
    obtain ⟨⟨rfl, h1⟩, h2⟩ := h
    obtain ⟨h3, ms', h4⟩ := cons_chk h2
    refine (pe_bi (bi_ok (cl := cl) (B := B) G.calm G.hu m o) (G.gl h1).1 (G.bts _ (biN_mem o)) (ih G h2 lv) (G.gl h1).2 (star_of h3 _ _) (stars_none h4 _ _)).imp fun σ H Q ⟨w, ρ, S, he, hr, q⟩ => ?_
    simp only [evE] at q
    exact (tEs_bind he hr q).imp fun xs H1 ⟨w1, ds, S1, l1, rs, hr1, q1⟩ => ⟨w1, S1, ds, _, rs, hr1, q1⟩
  · cases h
theorem ok_isi {x : ME} {t : Ty} (i1 : OkE x) : OkE (.isi x t) := fun {X cl xa B b W k sc e} G h lv => by
  simp only [chkE] at h
  split at h
  · rename_i x0 p0 y z pz pos
    simp only [Bool.and_eq_true, decide_eq_true_eq] at h
    obtain ⟨⟨⟨⟨rfl, h1⟩, rfl⟩, h2⟩, h3⟩ := h
    refine (pe_callB call_isi (G.gl h1).1 (G.bts _ (by decide)) (by decide +kernel) (pa_cons (i1 G h3 lv) (pa_cons (pe_bltn (G.gl h2).1 (G.bts _ (tyS_mem t)) (boot_ty t) (show L2.RelV (.ty (tyN t)) _ from rfl) (tyS_ne t) (G.gl h2).2) pa_nil rfl) (star_of (chk_odd h3) _ _)) (by decide) (by decide) (star_of (chk_odd h3) _ _) (by rfl)).imp fun σ H Q ⟨w, ρ, S, he, hr, q⟩ => ?_
    simp only [evE] at q
    refine (tE_bind he hr q).imp fun v H1 ⟨w1, d, S1, l1, r1, hr1, q1⟩ => ?_
    split at q1
    · rename_i j hj
      obtain ⟨u, t1, t2⟩ := is_ok hr1 r1 hj
      exact ⟨v, .ty (tyN t), u, .type (tyN t), j, rfl, .ty _, t1, t2, out_bl hr1 q1⟩
    · exact q1.elim
  · cases h
theorem tyV_lst {d : D} {ds : List D} {x : V} {w : Wd} {H : Hp} {S : Store} (hr : HR X.K cl B w H S) (e : lstOf S d = some ds) (r : Rep X.K w d x) : tyV X.K "list" x H := by
  obtain ⟨a, vs, rfl, h1, h2⟩ := lst_of hr e r
  exact .inl ⟨rfl, vs, SqL.of h1⟩
theorem ok_app {m : Bool} {x : ME} {es : MEs} (i1 : OkE x) (ih : OkEs es) : OkE (.bm m .append x es) := fun {X cl xa B b W k sc e} G h lv => by
  simp only [chkE] at h
  split at h
  · simp only [Bool.and_eq_true, decide_eq_true_eq] at h
    obtain ⟨⟨⟨⟨rfl, h1⟩, h2⟩, h3⟩, h4⟩ := h
    obtain ⟨h5, ms', h6⟩ := cons_chk h4
    refine (pe_bm PySem.F.plainAttrs_list PySem.F.slot_list_append PySem.F.type_list_append mt_append (i1 G h3 lv.1) (ih G h4 lv.2) (base_of h1 _ _) (by rw [star_of h5]; rfl) h2 (star_of h5 _ _) (by rfl)).imp fun σ H Q ⟨w, ρ, S, he, hr, q⟩ => ?_
    simp only [evE] at q
    refine (tE_bind he hr q).imp fun v H1 ⟨w1, d, S1, l1, r1, hr1, q1⟩ => ?_
    split at q1
    · rename_i hi
      obtain ⟨ds, hd⟩ := Option.isSome_iff_exists.mp hi
      refine ⟨tyV_lst hr1 hd r1, ?_⟩
      exact (tEs_bind (he.mono l1.ex) hr1 q1).imp fun xs H2 ⟨w2, ds2, S2, l2, rs, hr2, q2⟩ => app_okD G.hB hr2 (r1.mono l2) rs q2
    · exact q1.elim
  · contradiction
  · cases h
theorem ok_pop {m : Bool} {x : ME} {es : MEs} (i1 : OkE x) : OkE (.bm m .pop x es) := fun {X cl xa B b W k sc e} G h lv => by
  simp only [chkE] at h
  split at h
  · contradiction
  · simp only [Bool.and_eq_true, decide_eq_true_eq] at h
    obtain ⟨⟨⟨⟨rfl, h1⟩, h2⟩, h3⟩, h4⟩ := h
    refine (pe_bm0 PySem.F.plainAttrs_list PySem.F.slot_list_pop PySem.F.type_list_pop mt_pop (i1 G h3 lv.1) (base_of h1 _ _) h2).imp fun σ H Q ⟨w, ρ, S, he, hr, q⟩ => ?_
    simp only [evE] at q
    refine (tE_bind he hr q).imp fun v H1 ⟨w1, d, S1, l1, r1, hr1, q1⟩ => ?_
    split at q1
    · rename_i hi
      obtain ⟨ds, hd⟩ := Option.isSome_iff_exists.mp hi
      refine ⟨tyV_lst hr1 hd r1, ?_⟩
      cases es with
      | nil => exact pop_okD (m := m) G.hB hr1 r1 .nil q1
      | cons => simp [chkEs] at h4
    · exact q1.elim
  · cases h
theorem ok_bm {m : Bool} {o : Bm} {x : ME} {es : MEs} (i1 : OkE x) (ih : OkEs es) : OkE (.bm m o x es) := by
  cases o with
  | append => exact ok_app i1 ih
  | pop => exact ok_pop i1
  | _ => intro X cl xa B b W k sc e G h lv; simp [chkE] at h
end
end Mn

/-! Mini: SOUNDNESS of expressions, comprehensions, all together. -/
namespace Mn
open PySem PySem.Spec PyProof.Rows L2

section
variable {K : PySem.W.Frag} {cl : Nat → Addr} {B : List Nat} {w : Wd} {H : Hp} {S : Store}
theorem Wd.ex_pin (w : Wd) (p : Addr) (o : HO) : (w.pin p o).ex w := ⟨fun _ _ e => e, fun _ _ e => e⟩
def hole (H : Hp) (p : Addr) : Hp := fun a => if a = p then none else H a
theorem hole_none {p : Addr} : hole H p p = none := if_pos rfl
theorem hole_upd {p : Addr} {o : HO} : upd (hole H p) p o = upd H p o := by
  funext a
  unfold upd hole
  by_cases h : a = p
  · simp [h]
  · simp [h]
theorem hole_back {p : Addr} {o : HO} (h : H p = some o) : upd (hole H p) p o = H := by
  funext a
  unfold upd hole
  by_cases e : a = p
  · simp [e, h]
  · simp [e]
/-- what is pinned is let go -/
theorem HR.less {p : Addr} {o : HO} (h : HR K cl B (w.pin p o) H S) (hF : w.F p = none) : H p = some o ∧ HR K cl B w (hole H p) S := by
  have hp := h.frm p o (if_pos rfl)
  obtain ⟨h1, h2, h3⟩ := hp
  refine ⟨h1, ⟨fun a b vs e => ?_, h.len, h.nd, fun n a c e1 e2 => ?_, h.sco, fun a u e => ?_⟩⟩
  · have q := h.imm a b vs e
    have hne : a ≠ p := fun z => by rw [z] at e; rw [show w.I p = none from h3] at e; cases e
    cases b with
    | t => exact (if_neg hne).trans q
    | l => exact (if_neg hne).trans q
    | f => obtain ⟨o', q⟩ := q; exact ⟨o', (if_neg hne).trans q⟩
  · have q := h.cel n a c e1 e2
    have hne : a ≠ p := fun z => h2 (by rw [← z]; exact List.mem_of_getElem? e1)
    cases c with
    | lst ds => obtain ⟨vs, q1, q2, q3⟩ := q; exact ⟨vs, (if_neg hne).trans q1, q2.mex (w.ex_pin p o), q3⟩
    | frz ds => obtain ⟨vs, q1, q2⟩ := q; exact ⟨vs, q1, q2.mex (w.ex_pin p o)⟩
    | ins c fs => obtain ⟨dx, gs, q1, q2, q3⟩ := q; exact ⟨dx, gs, (if_neg hne).trans q1, q2.mex (w.ex_pin p o), q3⟩
  · have hne : a ≠ p := fun z => by rw [z, hF] at e; cases e
    obtain ⟨q1, q2, q3⟩ := h.frm a u (by show (if a = p then _ else _) = _; rw [if_neg hne]; exact e)
    exact ⟨(if_neg hne).trans q1, q2, q3⟩
theorem HR.repin {p : Addr} {o o' : HO} (h : HR K cl B (w.pin p o) H S) (hF : w.F p = none) : HR K cl B (w.pin p o') (upd H p o') S := by
  have q := (h.less hF).2.pin o' hole_none
  rwa [hole_upd] at q
/-- the world after, without the pin -/
theorem Wd.unpin {w w2 : Wd} {p : Addr} {o : HO} (l : (w.pin p o).le w2) : ∃ w3, w2 = w3.pin p o ∧ w.le w3 := by
  refine ⟨⟨w2.I, w2.μ, w.F⟩, ?_, ⟨l.imm, l.cel, rfl⟩⟩
  have := l.frm
  cases w2 with
  | mk I μ F =>
    have e : F = (w.pin p o).F := this
    subst e
    rfl

/-! ### a pattern bound -/
theorem EnvR.tup : ∀ {is : List Nat} {ds : List D} {vs : List V} {ρ : Env} {σ : L2.St} {Q : L2.St → Hp → Prop}, EnvR K w ρ σ → Reps K w ds vs → is.length = ds.length →
    (∀ σ1, EnvR K w ((is.zip ds).foldl (fun ρ q => ρ.set q.1 (some q.2)) ρ) σ1 → (∀ us, (is.all fun i => us.contains i) = true → L2.wipe σ1 us = L2.wipe σ us) → Q σ1 H) → (is.foldr (fun i t => gCons (gName i) t) gNil) vs σ H Q
  | [], ds, vs, ρ, σ, Q, he, rs, hl, q => by
    cases ds with
    | nil =>
      simp only [Reps] at rs
      subst rs
      exact ⟨rfl, q σ he fun us _ => rfl⟩
    | cons => simp at hl
  | i :: is, ds, vs, ρ, σ, Q, he, rs, hl, q => by
    cases ds with
    | nil => simp at hl
    | cons d ds =>
      simp only [Reps] at rs
      obtain ⟨v, r, rfl, r1, r2⟩ := rs
      refine ⟨v, r, rfl, ?_⟩
      refine EnvR.tup (he.set r1) r2 (by simpa using hl) fun σ1 h1 h2 => q σ1 h1 fun us hu => ?_
      rw [List.all_cons, Bool.and_eq_true] at hu
      rw [h2 us hu.2]
      exact wipe_set (by simpa using hu.1)
theorem gPat_ok {p : Pat} {d : D} {x : V} {ρ ρ1 : Env} {σ : L2.St} {Q : L2.St → Hp → Prop} (e : bindP p d ρ = some ρ1) (he : EnvR K w ρ σ) (r : Rep K w d x) (hr : HR K cl B w H S)
    (q : ∀ σ1, EnvR K w ρ1 σ1 → (∀ us, patIn us p = true → L2.wipe σ1 us = L2.wipe σ us) → Q σ1 H) : gPat K p x σ H Q := by
  cases p with
  | one i =>
    unfold bindP at e
    simp only at e
    split at e
    · cases e
      exact q _ (he.set r) fun us hu => wipe_set (by simpa [patIn] using hu)
    · cases e
  | tup is =>
    cases d with
    | tup ds =>
      unfold bindP at e
      simp only at e
      split at e
      · rename_i hl
        cases e
        obtain ⟨a, vs, rfl, i, rs⟩ := rep_tup r
        exact ⟨a, vs, rfl, SqT.of (hr.sqT i), by rw [rs.length]; exact hl.1.symm, EnvR.tup he rs hl.1 fun σ1 h1 h2 => q σ1 h1 h2⟩
      · cases e
    | _ => unfold bindP at e; cases e
theorem oR.only {α α' β β' : Type} {R : Wd → α → β → Prop} {R' : Wd → α' → β' → Prop} {r : Res α} {k : α → Store → Res α'} {Xc : Nat → Hp → Prop} {Q : β' → Hp → Prop}
    (h : oR K cl B R' (r.only k) w Xc Q) : oR K cl B R r w (fun _ _ => False) (fun x H' => ∃ w' a S', w.le w' ∧ R w' a x ∧ HR K cl B w' H' S' ∧ oR K cl B R' (k a S') w' Xc Q) := by
  cases r with
  | ok a S => exact fun w' x H' l r hr => ⟨w', a, S, l, r, hr, h.le l⟩
  | exc c S => exact h.elim
  | stuck => exact h
theorem only_bind {α β γ : Type} (r : Res α) (k : α → Store → Res β) (g : β → Store → Res γ) : (r.bind k).only g = r.only fun a S => (k a S).only g := by
  cases r <;> rfl
theorem oR.onlyP {α α' β β' : Type} {R : Wd → α → β → Prop} {R' : Wd → α' → β' → Prop} {r : Res α} {k : α → Store → Res α'} {p : Addr} {o : HO} {Xc : Nat → Hp → Prop} {Q : β' → Hp → Prop}
    (h : oR K cl B R' (r.only k) w Xc Q) : oR K cl B R r (w.pin p o) (fun _ _ => False) (fun x H' => ∃ w' a S', w.le w' ∧ R (w'.pin p o) a x ∧ HR K cl B (w'.pin p o) H' S' ∧ oR K cl B R' (k a S') w' Xc Q) := by
  cases r with
  | ok a S =>
    intro w' x H' l r hr
    obtain ⟨w4, rfl, l4⟩ := Wd.unpin l
    exact ⟨w4, a, S, l4, r, hr, h.le l4⟩
  | exc c S => exact h.elim
  | stuck => exact h
theorem only_some {α β γ : Type} {r : Res α} {g : Option α → Store → Res β} {n : β → Store → Res γ} : ((r.bind fun x S4 => .ok (some x) S4).only g).bind n = r.only fun x S4 => (g (some x) S4).bind n := by
  cases r <;> rfl
end

/-! ### comprehensions -/
section
variable {X : Cx} {cl xa : Nat → Addr} {B : List Nat} {b : Nat} {W : WX} {k : Nat} {sc : Scope}
def W0 : WX := fun _ _ _ _ => False
theorem takes00 {X : Cx} : Takes X W0 := fun _ _ x => by
  obtain ⟨_, _, _, _, _, _, _, _, _, _, _, _, _, _, _, _, q⟩ := x
  exact q.elim
theorem Good.blk (G : Good X cl xa B b W k sc) (s : Shared) (H : Hp) (scope : Scope) (C : Addr) (cs : List (Str × Addr)) (fp : List Addr) : Good (X.blk s H scope (compEnvC scope cs C X.env) fp) cl xa B b W0 k (relS scope sc) :=
  ⟨G.nd, G.calm, by show relS scope X.env.scope = _; rw [G.hsc], takes00, G.room, G.hB, G.bts⟩
theorem loc_rel {scope sc : Scope} {x : Str} (h : Loc scope x) : Loc (relS scope sc) x := by
  rcases h with h | h
  · exact .inl (lookup_relS_keep (by decide) h)
  · exact .inr (lookup_relS_keep (by decide) h)
def evC (b : Nat) (tg : Pat) (c : MO) (elt : ME) (own : List Nat) (ρ : Env) (d : D) (S2 : Store) : Res (Option D) := match bindP tg d (wipeD ρ own) with
  | none => .stuck
  | some ρ1 => ((evO b c ρ1 S2).bind truO).bind fun k S3 => if k then (evE b elt ρ1 S3).bind fun x S4 => .ok (some x) S4 else .ok none S3
theorem lc_parts {m : Bool} {own : List Nat} {elt : ME} {tg : Pat} {it : MI} {c : MO} (i1 : OkE elt) (i2 : OkI it) (i3 : OkF c) {x t i : Expr} {ifs : List Expr} {scope : Scope} {pos : Pos} (G : Good X cl xa B b W k sc)
    (h : chkE X.N sc (.lc m own elt tg it c) (.ListComp x [⟨t, i, ifs, 0⟩] scope pos) = true) (lv : LvE (Lv X cl xa k) (.lc m own elt tg it c)) :
    ∃ wi g tt te, PI X t i wi ∧ BlkOk X.N X.env.scope scope (ownN X.N own) ∧ (∀ (s : Shared) (H : Hp) (C : Addr) (cs : List (Str × Addr)) (fp : List Addr), PG (X.blk s H scope (compEnvC scope cs C X.env) fp) t g) ∧
      (∀ (s : Shared) (H : Hp) (C : Addr) (cs : List (Str × Addr)) (fp : List Addr), PTs (X.blk s H scope (compEnvC scope cs C X.env) fp) ifs tt) ∧
      (∀ (s : Shared) (H : Hp) (C : Addr) (cs : List (Str × Addr)) (fp : List Addr), PE (X.blk s H scope (compEnvC scope cs C X.env) fp) x te) ∧ (∀ y, foldedSetIterable i X.env y = pure y) ∧
      ∀ σ H Q, tE X.K cl xa B b W (.lc m own elt tg it c) σ H Q → tLc wi g tt te ((ownN X.N own).map (·.2)) σ H Q := by
    simp only [chkE] at h
    simp only [Bool.and_eq_true, decide_eq_true_eq] at h
    obtain ⟨⟨⟨⟨⟨⟨h1, h2⟩, hp⟩, h3⟩, h4⟩, h5⟩, h6⟩ := h
    obtain ⟨pi, hf⟩ := i2 (tg := t) G h4 lv.2.1
    have hg : ∀ (s : Shared) (H : Hp) (C : Addr) (cs : List (Str × Addr)) (fp : List Addr), PG (X.blk s H scope (compEnvC scope cs C X.env) fp) t (gPat X.K tg) := fun s H C cs fp =>
      chkP_pg (X := X.blk s H scope (compEnvC scope cs C X.env) fp) G.nd G.calm h3 (fun x l => by
        show Loc (relS scope X.env.scope) x
        exact loc_rel l) (fun x l => by
        rcases l with l | l
        · exact .inr (lookup_relS_keep (by decide) l)
        · refine .inl ?_
          show (scope.names.lookup x == some .cell) = true
          rw [l]; rfl)
    have ht : ∀ (s : Shared) (H : Hp) (C : Addr) (cs : List (Str × Addr)) (fp : List Addr), PTs (X.blk s H scope (compEnvC scope cs C X.env) fp) ifs (tF X.K cl xa B b W0 c) := fun s H C cs fp => i3 (G.blk s H scope C cs fp) h5 lv.2.2
    have hel : ∀ (s : Shared) (H : Hp) (C : Addr) (cs : List (Str × Addr)) (fp : List Addr), PE (X.blk s H scope (compEnvC scope cs C X.env) fp) x (tE X.K cl xa B b W0 elt) := fun s H C cs fp => i1 (G.blk s H scope C cs fp) h6 lv.1
    refine ⟨_, _, _, _, pi, blkOk_by (by rw [G.hsc]; exact h1), hg, ht, hel, hf, fun σ H Q ⟨w, ρ, S, he, hr, q⟩ => ?_⟩
    rw [h2]
    have q : oR X.K cl B (Rep X.K) ((evI b it ρ S).bind fun q S1 => (lcL q.2 (evC b tg c elt own ρ) q.1 [] S1).bind (newL m)) w (xc xa W σ) Q := by
      simp only [evE] at q; exact q
    refine ⟨w, ρ, S, he, hr, q.bind.imp fun J H1 ⟨w1, q1, S1, l1, wk, hr1, q2⟩ => ?_⟩
    obtain ⟨items, src⟩ := q1
    have q2 : oR X.K cl B (Rep X.K) ((lcL src (evC b tg c elt own ρ) items [] S1).bind (newL m)) w1 (xc xa W σ) Q := q2
    have he1 := he.mono l1.ex
    intro P hP
    have hF : w1.F P = none := by
      cases e : w1.F P with
      | none => rfl
      | some o => exact absurd hP (by rw [(hr1.frm P o e).1]; simp)
    let Wf : Nat → Nat → Hp → Prop := fun j n H' => n = items.length - j ∧ j ≤ items.length ∧ ∃ w' S' acc vs, w1.le w' ∧ HR X.K cl B (w'.pin P (.lst vs)) H' S' ∧ Reps X.K w' acc vs ∧
      oR X.K cl B (Rep X.K) ((lcL src (evC b tg c elt own ρ) (items.drop j) acc S').bind (newL m)) w' (xc xa W σ) Q
    refine ⟨Wf, ⟨items.length, ⟨by omega, Nat.zero_le _, w1, S1, [], [], .refl _, hr1.pin _ hP, .nil, q2⟩⟩, fun j n H' hw => ?_⟩
    obtain ⟨hn, hj, w', S', acc, vs, l', hr', rs, q'⟩ := hw
    have hF' : w'.F P = none := by rw [l'.frm]; exact hF
    have ex' : w1.ex (w'.pin P (.lst vs)) := l'.ex.trans (w'.pin_ex P _)
    rcases Nat.eq_or_lt_of_le hj with hje | hjl
    · left
      subst hje
      rw [List.drop_length] at q'
      unfold lcL at q'
      split at q'
      · rename_i hst
        refine ⟨wk.stop _ H' S' ex' hr' hst, ?_⟩
        have q' : oR X.K cl B (Rep X.K) (newL m acc S') w' (xc xa W σ) Q := q'
        obtain ⟨h7, h8⟩ := hr'.less hF'
        obtain ⟨_, h9⟩ := new_lst h8 rs q'
        have := h9 P hole_none
        rwa [hole_back h7] at this
      · exact q'.elim
    · right
      have hd : items.drop j = items[j] :: items.drop (j + 1) := List.drop_eq_getElem_cons hjl
      rw [hd] at q'
      unfold lcL at q'
      split at q'
      rotate_left
      · exact q'.elim
      rename_i hst
      refine ⟨wk.go j _ H' S' hjl ex' hr' hst, fun H2 => Wf (j + 1) (items.length - (j + 1)) H2, fun H2 h2 => ⟨items.length - (j + 1), by omega, h2⟩, fun v H2 hy => ?_⟩
      obtain ⟨w2, l2, rv, hr2⟩ := wk.yld j _ H' S' v H2 items[j] (List.getElem?_eq_getElem hjl) ex' hr' hst hy
      obtain ⟨w3, rfl, l3⟩ := Wd.unpin l2
      unfold evC at q'
      split at q'
      · exact q'.elim
      rename_i ρ1 hb
      have he2 : EnvR X.K (w3.pin P (.lst vs)) (wipeD ρ own) (L2.wipe σ own) := (he1.mono (ex'.trans l2.ex)).wipe own
      refine gPat_ok hb he2 rv hr2 fun σ1 he3 hw => ⟨(hw own hp).trans (wipe_wipe fun u hu => hu), ?_⟩
      -- the rest, in the world without the pin
      have q3 : oR X.K cl B (Rep X.K) (((evO b c ρ1 S').bind truO).only fun t S3 => ((if t then (evE b elt ρ1 S3).bind fun x S4 => .ok (some x) S4 else .ok none S3 : Res (Option D)).only fun o S' => match o with
          | some x => if acc.length < line then lcL src (evC b tg c elt own ρ) (items.drop (j + 1)) (acc ++ [x]) S' else .stuck
          | none => lcL src (evC b tg c elt own ρ) (items.drop (j + 1)) acc S').bind (newL m)) w3 (xc xa W σ) Q := by
        have q4 := q'.le l3
        rw [only_bind] at q4
        cases e : (evO b c ρ1 S').bind truO with
        | ok t S3 => rw [e] at q4; exact q4
        | exc t S3 => rw [e] at q4; exact q4
        | stuck => rw [e] at q4; exact q4
      refine ⟨_, ρ1, S', he3, hr2, (oR.onlyP q3).imp fun t H3 ⟨w4, t', S3, l4, et, hr4, q5⟩ => ?_⟩
      have et : t' = t := et
      subst et
      have hF4 : w4.F P = none := by rw [l4.frm, l3.frm]; exact hF'
      have he4 : EnvR X.K (w4.pin P (.lst vs)) ρ1 σ1 := he3.mono ⟨l4.imm, l4.cel⟩
      cases t' with
      | false =>
        rw [if_neg (by decide)]
        exact ⟨rfl, by omega, w4, S3, acc, vs, (l'.trans l3).trans l4, hr4, rs.mono (l3.trans l4), q5⟩
      | true =>
        rw [if_pos rfl]
        rw [if_pos rfl, only_some] at q5
        refine ⟨_, ρ1, S3, he4, hr4, (oR.onlyP q5).imp fun y H4 ⟨w5, d, S4, l5, rd, hr5, q6⟩ => ?_⟩
        have hF5 : w5.F P = none := by rw [l5.frm]; exact hF4
        have q6 : oR X.K cl B (Rep X.K) ((if acc.length < line then lcL src (evC b tg c elt own ρ) (items.drop (j + 1)) (acc ++ [d]) S4 else .stuck : Res (List D)).bind (newL m)) w5 (xc xa W σ) Q := q6
        split at q6
        · rename_i hlt
          exact ⟨vs, (hr5.less hF5).1, by rw [rs.length, ← line_eq]; exact hlt, rfl, by omega, w5, S4, acc ++ [d], vs ++ [y], ((l'.trans l3).trans l4).trans l5, hr5.repin hF5, (rs.mono ((l3.trans l4).trans l5)).append (.one (rd.mex (w5.ex_pin P _))), q6⟩
        · exact q6.elim
theorem ok_lc {m : Bool} {own : List Nat} {elt : ME} {tg : Pat} {it : MI} {c : MO} (i1 : OkE elt) (i2 : OkI it) (i3 : OkF c) : OkE (.lc m own elt tg it c) := fun {X cl xa B b W k sc e} G h lv => by
  have h' := h
  simp only [chkE] at h
  split at h
  · obtain ⟨wi, g, tt, te, pi, ok, hg, ht, he, hf, imp⟩ := lc_parts i1 i2 i3 G h' lv
    exact (pe_lc G.calm G.nd pi ok hg ht he hf).imp imp
  · cases h
end
end Mn

/-! Mini: SOUNDNESS of expressions, tests and iterators, all together. -/
namespace Mn
open PySem PySem.Spec PyProof.Rows L2

/-- nothing of its own as a test -/
def plainT : Expr → Bool
  | .UnaryOp .Not _ _ => false
  | .BoolOp .. => false
  | .IfExp .. => false
  | .Compare .. => false
  | _ => true
theorem plainT_is {e : Expr} (h : plainT e = true) (env : PySem.Env) (whole : Sem Value) : PySem.isTrue e env whole = (do let v ← whole; standAt e.pos; holding [v] (truthy v)) := by
  cases e with
  | BoolOp => simp [plainT] at h
  | IfExp => simp [plainT] at h
  | Compare => simp [plainT] at h
  | UnaryOp op x p => cases op <;> first | rfl | simp [plainT] at h
  | _ => rfl
def isPl : ME → Bool
  | .not_ _ => false
  | .cmp .. => false
  | .chain .. => false
  | .and_ _ => false
  | .or_ _ => false
  | .ite .. => false
  | _ => true
theorem chk_plainT {N : List Str} {sc : Scope} {m : ME} {e : Expr} (h : chkE N sc m e = true) (hm : isPl m = true) : plainT e = true := by
  cases e with
  | UnaryOp op x p => cases m <;> cases op <;> simp_all [chkE, isPl, plainT]
  | BoolOp op xs p => cases m <;> cases op <;> simp_all [chkE, isPl, plainT]
  | IfExp => cases m <;> simp_all [chkE, isPl, plainT]
  | Compare => cases m <;> simp_all [chkE, isPl, plainT]
  | _ => rfl
section
variable {X : Cx} {cl xa : Nat → Addr} {B : List Nat} {b : Nat} {W : WX} {k : Nat} {sc : Scope} {w : Wd} {ρ : Env} {σ : L2.St} {H : Hp} {S : Store}
theorem ok_truth {m : ME} (hm : isPl m = true) (i1 : OkE m) : OkT m := fun {X cl xa B b W k sc e} G h ht lv => by
  refine (pt_truth (i1 G h lv) (plainT_is (chk_plainT h hm) _)).imp fun σ H Q ⟨w, ρ, S, he, hr, q⟩ => ?_
  refine ⟨w, ρ, S, he, hr, (q.bind (R := Rep X.K)).imp fun x H1 ⟨w1, d, S1, l1, r1, hr1, q1⟩ => ?_⟩
  unfold tru1 at q1
  split at q1
  · rename_i j hj
    exact ⟨j, tru_of hr1 r1 hj, q1 w1 j H1 (.refl _) rfl hr1⟩
  · exact q1.elim
theorem bl_out {K : PySem.W.Frag} {r : Res D} {Xc : Nat → Hp → Prop} {Q : Bool → Hp → Prop} (hb : ∀ d S', r = .ok d S' → ∃ k, d = .bl k) (q : oR K cl B eqR (r.bind tru1) w Xc Q) : oR K cl B (Rep K) r w Xc (fun x H' => ∃ k, x = .bl k ∧ Q k H') := by
  cases r with
  | ok d S' =>
    obtain ⟨j, rfl⟩ := hb d S' rfl
    intro w' x H' l r hr
    exact ⟨j, rep_bl r, q w' j H' l rfl hr⟩
  | exc c S' => exact q
  | stuck => exact q
theorem cmp_bl {o : Cop} {x y : D} {d : D} {S' : Store} (h : cmpD o x y S = .ok d S') : ∃ k, d = .bl k := by
  unfold cmpD at h
  repeat' split at h
  all_goals first | (cases h; exact ⟨_, rfl⟩) | cases h
theorem bind_ok {α β : Type} {r : Res α} {f : α → Store → Res β} {d : β} {S' : Store} (h : r.bind f = .ok d S') : ∃ a S1, r = .ok a S1 ∧ f a S1 = .ok d S' := by
  cases r with
  | ok a S1 => exact ⟨a, S1, rfl, h⟩
  | exc => cases h
  | stuck => cases h
theorem ok_tcmp {o : Cop} {x y : ME} (i1 : OkE x) (i2 : OkE y) : OkT (.cmp o x y) := fun {X cl xa B b W k sc e} G h ht lv => by
  cases e with
  | Compare l ops rs p =>
    match ops, rs, h with
    | [op], [r], h =>
      simp only [chkE, Bool.and_eq_true, decide_eq_true_eq] at h
      obtain ⟨⟨rfl, h1⟩, h2⟩ := h
      refine (pt_cmpR (op_cmp (cl := cl) (B := B) G.hu o) (i1 G h1 lv.1) (i2 G h2 lv.2) (nomarks (chk_odd h2) _)).imp fun σ H Q ⟨w, ρ, S, he, hr, q⟩ => ?_
      have q' := bl_out (fun d S' e => by
        simp only [evE] at e
        obtain ⟨_, _, _, e⟩ := bind_ok e
        obtain ⟨_, _, _, e⟩ := bind_ok e
        exact cmp_bl e) q
      simp only [evE] at q'
      exact (tE_bind he hr q').imp fun x H1 ⟨w1, d, S1, l1, r1, hr1, q1⟩ => (tE_bind (he.mono l1.ex) hr1 q1).imp fun y H2 ⟨w2, e, S2, l2, r2, hr2, q2⟩ => ⟨w2, S2, d, e, _, r1.mono l2, r2, hr2, q2⟩
    | [], _, h => simp [chkE] at h
    | _ :: _ :: _, _, h => simp [chkE] at h
    | [_], [], h => simp [chkE] at h
    | [_], _ :: _ :: _, h => simp [chkE] at h
  | _ => simp [chkE] at h
theorem ok_tchain {o o' : Cop} {x y z : ME} (i1 : OkE x) (i2 : OkE y) (i3 : OkE z) : OkT (.chain o o' x y z) := fun {X cl xa B b W k sc e} G h ht lv => by
  cases e with
  | Compare l ops rs p =>
    match ops, rs, h with
    | [op, op'], [r, r'], h =>
      simp only [chkE, Bool.and_eq_true, decide_eq_true_eq] at h
      obtain ⟨⟨⟨⟨rfl, rfl⟩, h1⟩, h2⟩, h3⟩ := h
      refine (pt_chain (op_cmp (cl := cl) (B := B) G.hu o) (op_cmp (cl := cl) (B := B) G.hu o') (i1 G h1 lv.1) (i2 G h2 lv.2.1) (i3 G h3 lv.2.2) (lastMarks2 (chk_odd h2) (chk_odd h3))).imp fun σ H Q ⟨w, ρ, S, he, hr, q⟩ => ?_
      have q' := bl_out (fun d S' e => by
        simp only [evE] at e
        obtain ⟨_, _, _, e⟩ := bind_ok e
        obtain ⟨_, _, _, e⟩ := bind_ok e
        obtain ⟨_, _, _, e⟩ := bind_ok e
        split at e
        · obtain ⟨_, _, _, e⟩ := bind_ok e
          exact cmp_bl e
        · cases e; exact ⟨_, rfl⟩
        · cases e) q
      simp only [evE] at q'
      refine (tE_bind he hr q').imp fun x H1 ⟨w1, d, S1, l1, r1, hr1, q1⟩ => (tE_bind (he.mono l1.ex) hr1 q1).imp fun y H2 ⟨w2, e, S2, l2, r2, hr2, q2⟩ => ⟨w2, S2, d, e, xc xa W σ, r1.mono l2, r2, hr2, ?_⟩
      refine (q2.bind (R := Rep X.K)).imp fun z H3 ⟨w3, f, S3, l3, r3, hr3, q3⟩ => ?_
      split at q3
      · refine ⟨true, rep_bl r3, ?_⟩
        rw [if_pos rfl]
        exact (tE_bind (he.mono ((l1.trans l2).trans l3).ex) hr3 q3).imp fun u H4 ⟨w4, g, S4, l4, r4, hr4, q4⟩ => ⟨w4, S4, e, g, _, r2.mono (l3.trans l4), r4, hr4, q4⟩
      · refine ⟨false, rep_bl r3, ?_⟩
        rw [if_neg (by decide)]
        exact out_bl hr3 q3
      · exact q3.elim
    | [], _, h => simp [chkE] at h
    | [_], _, h => simp [chkE] at h
    | _ :: _ :: _ :: _, _, h => simp [chkE] at h
    | [_, _], [], h => simp [chkE] at h
    | [_, _], [_], h => simp [chkE] at h
    | [_, _], _ :: _ :: _ :: _, h => simp [chkE] at h
  | _ => simp [chkE] at h
theorem ok_tnot {x : ME} (i1 : OkT x) : OkT (.not_ x) := fun {X cl xa B b W k sc e} G h ht lv => by
  cases e with
  | UnaryOp op r p =>
    cases op with
    | Not =>
      simp only [chkE] at h
      refine (pt_not (i1 G h (by simpa [tOk] using ht) lv)).imp fun σ H Q ⟨w, ρ, S, he, hr, q⟩ => ?_
      have q' : oR X.K cl B eqR (((evE b x ρ S).bind tru1).bind fun t S1 => .ok (!t) S1) w (xc xa W σ) Q := by
        simp only [evE] at q
        cases e : evE b x ρ S with
        | ok d S1 =>
          rw [e] at q
          show oR X.K cl B eqR ((tru1 d S1).bind _) w _ Q
          have q : oR X.K cl B eqR ((match truD S1 d with | some k => Res.ok (D.bl (!k)) S1 | none => Res.stuck).bind tru1) w (xc xa W σ) Q := q
          unfold tru1
          cases e2 : truD S1 d with
          | none => rw [e2] at q; exact q
          | some t => rw [e2] at q; exact q
        | exc c S1 => rw [e] at q; exact q
        | stuck => rw [e] at q; exact q
      obtain ⟨w1, ρ1, S1, he1, hr1, q1⟩ := tT_bind he hr q'
      exact ⟨w1, ρ1, S1, he1, hr1, q1.imp fun t H1 ⟨w2, S2, l2, hr2, q2⟩ => q2 w2 _ H1 (.refl _) rfl hr2⟩
    | _ => simp [chkE] at h
  | _ => simp [chkE] at h
theorem ok_tand {es : MEs} (ih : OkTA es) : OkT (.and_ es) := fun {X cl xa B b W k sc e} G h ht lv => by
  cases e with
  | BoolOp op xs p =>
    cases op with
    | And =>
      cases xs with
      | nil => simp [chkE] at h
      | cons x xs =>
        simp only [chkE] at h
        refine (ih G h (by simpa [tOk] using ht) lv (by simp)).pt.imp fun σ H Q ⟨w, ρ, S, he, hr, q⟩ => ?_
        simp only [evE] at q
        exact ⟨w, ρ, S, he, hr, q⟩
    | _ => simp [chkE] at h
  | _ => simp [chkE] at h
theorem ok_tor {es : MEs} (ih : OkTR es) : OkT (.or_ es) := fun {X cl xa B b W k sc e} G h ht lv => by
  cases e with
  | BoolOp op xs p =>
    cases op with
    | Or =>
      cases xs with
      | nil => simp [chkE] at h
      | cons x xs =>
        simp only [chkE] at h
        refine (ih G h (by simpa [tOk] using ht) lv (by simp)).pt.imp fun σ H Q ⟨w, ρ, S, he, hr, q⟩ => ?_
        simp only [evE] at q
        exact ⟨w, ρ, S, he, hr, q⟩
    | _ => simp [chkE] at h
  | _ => simp [chkE] at h
theorem _root_.L2.PW.imp {X : Cx} {e : Expr} {t t' : TT} (h : PW X e t) (i : ∀ σ H Q, t' σ H Q → t σ H Q) : PW X e t' := ⟨fun wh pins s σ H Q I q => h.run wh pins s σ H Q I (i σ H Q q)⟩

/-! ### lists of terms -/
theorem ok_nil : OkEs .nil := fun {X cl xa B b W k sc es} G h lv => by
  cases es with
  | nil =>
    refine pa_nil.imp fun σ H Q ⟨w, ρ, S, he, hr, q⟩ => ?_
    exact q w [] H (.refl _) .nil hr
  | cons => simp [chkEs] at h
theorem ok_cons {m : ME} {ms : MEs} (i1 : OkE m) (ih : OkEs ms) : OkEs (.cons m ms) := fun {X cl xa B b W k sc es} G h lv => by
  cases es with
  | nil => simp [chkEs] at h
  | cons e es =>
    simp only [chkEs, Bool.and_eq_true] at h
    refine (pa_cons (i1 G h.1 lv.1) (ih G h.2 lv.2) (star_of (chk_odd h.1) _ _)).imp fun σ H Q ⟨w, ρ, S, he, hr, q⟩ => ?_
    simp only [evEs] at q
    exact (tE_bind he hr q).imp fun x H1 ⟨w1, d, S1, l1, r1, hr1, q1⟩ => (tEs_bind (he.mono l1.ex) hr1 q1).imp fun xs H2 ⟨w2, ds, S2, l2, rs, hr2, q2⟩ => q2 w2 _ H2 (.refl _) (.cons (r1.mono l2) rs) hr2
theorem ok_a0 : OkA .nil := fun {X cl xa B b W k sc es pos} G h lv hne => by
  cases es with
  | nil => exact absurd rfl hne
  | cons e es => simp [chkEs] at h
theorem ok_r0 : OkR .nil := fun {X cl xa B b W k sc es pos} G h lv hne => by
  cases es with
  | nil => exact absurd rfl hne
  | cons e es => simp [chkEs] at h
theorem ok_ta0 : OkTA .nil := fun {X cl xa B b W k sc es pos} G h ht lv hne => by
  cases es with
  | nil => exact absurd rfl hne
  | cons e es => simp [chkEs] at h
theorem ok_tr0 : OkTR .nil := fun {X cl xa B b W k sc es pos} G h ht lv hne => by
  cases es with
  | nil => exact absurd rfl hne
  | cons e es => simp [chkEs] at h
theorem ok_zip3 {a b c : ME} : OkI (.zip3 a b c) := fun {X cl xa B b W k sc tg e} G h lv => by simp [chkI] at h
theorem ok_lc2 {m : Bool} {own own1 : List Nat} {elt : ME} {tg : Pat} {it : MI} {tg1 : Pat} {it1 : MI} : OkE (.lc2 m own own1 elt tg it tg1 it1) := fun {X cl xa B b W k sc e} G h lv => by simp [chkE] at h
theorem ok_fld {a : ME} {C : Nat} {f : Str} : OkE (.fld a C f) := fun {X cl xa B b W k sc e} G h lv => by simp [chkE] at h
theorem ok_mk {x : Str} {C : Nat} {g : FnSem} {es : MEs} : OkE (.mk x C g es) := fun {X cl xa B b W k sc e} G h lv => by simp [chkE] at h
theorem ok_meth {a : ME} {C : Nat} {f : Str} {g : FnSem} {es : MEs} : OkE (.meth a C f g es) := fun {X cl xa B b W k sc e} G h lv => by simp [chkE] at h
theorem ok_tite {a b c : ME} : OkT (.ite a b c) := fun {X cl xa B b W k sc e} G h ht lv => by simp [tOk] at ht
theorem ok_a1 {m : ME} (i1 : OkE m) : OkA (.cons m .nil) := fun {X cl xa B b W k sc es pos} G h lv hne => by
  cases es with
  | nil => exact absurd rfl hne
  | cons e es =>
    simp only [chkEs, Bool.and_eq_true] at h
    cases es with
    | nil => exact (pe_one (i1 G h.1 lv.1)).imp fun σ H Q ⟨w, ρ, S, he, hr, q⟩ => ⟨w, ρ, S, he, hr, by simpa only [evA] using q⟩
    | cons => simp at h
theorem ok_r1 {m : ME} (i1 : OkE m) : OkR (.cons m .nil) := fun {X cl xa B b W k sc es pos} G h lv hne => by
  cases es with
  | nil => exact absurd rfl hne
  | cons e es =>
    simp only [chkEs, Bool.and_eq_true] at h
    cases es with
    | nil => exact (pe_one (i1 G h.1 lv.1)).imp fun σ H Q ⟨w, ρ, S, he, hr, q⟩ => ⟨w, ρ, S, he, hr, by simpa only [evR] using q⟩
    | cons => simp at h
theorem ok_a2 {m m2 : ME} {ms : MEs} (i1 : OkE m) (ih : OkA (.cons m2 ms)) : OkA (.cons m (.cons m2 ms)) := fun {X cl xa B b W k sc es pos} G h lv hne => by
  cases es with
  | nil => exact absurd rfl hne
  | cons e es =>
    rw [chkEs] at h
    simp only [Bool.and_eq_true] at h
    cases es with
    | nil => simp [chkEs] at h
    | cons e2 es =>
      refine (pe_andT (i1 G h.1 lv.1) (ih G h.2 lv.2 (by simp))).imp fun σ H Q ⟨w, ρ, S, he, hr, q⟩ => ?_
      rw [evA] at q
      refine (tE_bind he hr q).imp fun x H1 ⟨w1, d, S1, l1, r1, hr1, q1⟩ => ?_
      split at q1
      · rename_i ht
        exact ⟨true, tru_of hr1 r1 ht, by rw [if_pos rfl]; exact ⟨w1, ρ, S1, he.mono l1.ex, hr1, q1⟩⟩
      · rename_i ht
        exact ⟨false, tru_of hr1 r1 ht, by rw [if_neg (by decide)]; exact out_d hr1 r1 q1⟩
      · exact q1.elim
theorem ok_r2 {m m2 : ME} {ms : MEs} (i1 : OkE m) (ih : OkR (.cons m2 ms)) : OkR (.cons m (.cons m2 ms)) := fun {X cl xa B b W k sc es pos} G h lv hne => by
  cases es with
  | nil => exact absurd rfl hne
  | cons e es =>
    rw [chkEs] at h
    simp only [Bool.and_eq_true] at h
    cases es with
    | nil => simp [chkEs] at h
    | cons e2 es =>
      refine (pe_orT (i1 G h.1 lv.1) (ih G h.2 lv.2 (by simp))).imp fun σ H Q ⟨w, ρ, S, he, hr, q⟩ => ?_
      rw [evR] at q
      refine (tE_bind he hr q).imp fun x H1 ⟨w1, d, S1, l1, r1, hr1, q1⟩ => ?_
      split at q1
      · rename_i ht
        exact ⟨true, tru_of hr1 r1 ht, by rw [if_pos rfl]; exact out_d hr1 r1 q1⟩
      · rename_i ht
        exact ⟨false, tru_of hr1 r1 ht, by rw [if_neg (by decide)]; exact ⟨w1, ρ, S1, he.mono l1.ex, hr1, q1⟩⟩
      · exact q1.elim
theorem ok_ta1 {m : ME} (i1 : OkT m) : OkTA (.cons m .nil) := fun {X cl xa B b W k sc es pos} G h ht lv hne => by
  cases es with
  | nil => exact absurd rfl hne
  | cons e es =>
    simp only [chkEs, Bool.and_eq_true] at h
    simp only [tOks, Bool.and_eq_true] at ht
    cases es with
    | nil => exact (pw_and1 (i1 G h.1 ht.1 lv.1)).imp fun σ H Q ⟨w, ρ, S, he, hr, q⟩ => ⟨w, ρ, S, he, hr, by simpa only [evA] using q⟩
    | cons => simp at h
theorem ok_tr1 {m : ME} (i1 : OkT m) : OkTR (.cons m .nil) := fun {X cl xa B b W k sc es pos} G h ht lv hne => by
  cases es with
  | nil => exact absurd rfl hne
  | cons e es =>
    simp only [chkEs, Bool.and_eq_true] at h
    simp only [tOks, Bool.and_eq_true] at ht
    cases es with
    | nil => exact (pw_or1 (i1 G h.1 ht.1 lv.1)).imp fun σ H Q ⟨w, ρ, S, he, hr, q⟩ => ⟨w, ρ, S, he, hr, by simpa only [evR] using q⟩
    | cons => simp at h
theorem ok_ta2 {m m2 : ME} {ms : MEs} (i1 : OkT m) (ih : OkTA (.cons m2 ms)) : OkTA (.cons m (.cons m2 ms)) := fun {X cl xa B b W k sc es pos} G h ht lv hne => by
  cases es with
  | nil => exact absurd rfl hne
  | cons e es =>
    rw [chkEs] at h
    rw [tOks] at ht
    simp only [Bool.and_eq_true] at h ht
    cases es with
    | nil => simp [chkEs] at h
    | cons e2 es =>
      refine (pw_and (i1 G h.1 ht.1 lv.1) (ih G h.2 ht.2 lv.2 (by simp))).imp fun σ H Q ⟨w, ρ, S, he, hr, q⟩ => ?_
      have q' : oR X.K cl B eqR (((evE b m ρ S).bind tru1).bind fun t S1 => if t then (evA b (.cons m2 ms) ρ S1).bind tru1 else .ok false S1) w (xc xa W σ) Q := by
        rw [evA] at q
        cases e : evE b m ρ S with
        | ok d S1 =>
          rw [e] at q
          have q : oR X.K cl B eqR ((match truD S1 d with | some true => evA b (.cons m2 ms) ρ S1 | some false => Res.ok d S1 | none => Res.stuck).bind tru1) w (xc xa W σ) Q := q
          show oR X.K cl B eqR ((tru1 d S1).bind _) w _ Q
          cases e2 : truD S1 d with
          | none => rw [e2] at q; exact q.elim
          | some t =>
            have e3 : tru1 d S1 = .ok t S1 := by unfold tru1; rw [e2]
            rw [e3]
            rw [e2] at q
            cases t with
            | true => exact q
            | false =>
              have q : oR X.K cl B eqR (tru1 d S1) w (xc xa W σ) Q := q
              rw [e3] at q
              exact q
        | exc c S1 => rw [e] at q; exact q
        | stuck => rw [e] at q; exact q
      obtain ⟨w1, ρ1, S1, he1, hr1, q1⟩ := tT_bind he hr q'
      refine ⟨w1, ρ1, S1, he1, hr1, q1.imp fun t H1 ⟨w2, S2, l2, hr2, q2⟩ => ?_⟩
      cases t with
      | true => rw [if_pos rfl] at q2 ⊢; exact ⟨w2, ρ, S2, he.mono l2.ex, hr2, q2⟩
      | false => rw [if_neg (by decide)] at q2 ⊢; exact q2 w2 _ H1 (.refl _) rfl hr2
theorem ok_tr2 {m m2 : ME} {ms : MEs} (i1 : OkT m) (ih : OkTR (.cons m2 ms)) : OkTR (.cons m (.cons m2 ms)) := fun {X cl xa B b W k sc es pos} G h ht lv hne => by
  cases es with
  | nil => exact absurd rfl hne
  | cons e es =>
    rw [chkEs] at h
    rw [tOks] at ht
    simp only [Bool.and_eq_true] at h ht
    cases es with
    | nil => simp [chkEs] at h
    | cons e2 es =>
      refine (pw_or (i1 G h.1 ht.1 lv.1) (ih G h.2 ht.2 lv.2 (by simp))).imp fun σ H Q ⟨w, ρ, S, he, hr, q⟩ => ?_
      have q' : oR X.K cl B eqR (((evE b m ρ S).bind tru1).bind fun t S1 => if t then .ok true S1 else (evR b (.cons m2 ms) ρ S1).bind tru1) w (xc xa W σ) Q := by
        rw [evR] at q
        cases e : evE b m ρ S with
        | ok d S1 =>
          rw [e] at q
          have q : oR X.K cl B eqR ((match truD S1 d with | some true => Res.ok d S1 | some false => evR b (.cons m2 ms) ρ S1 | none => Res.stuck).bind tru1) w (xc xa W σ) Q := q
          show oR X.K cl B eqR ((tru1 d S1).bind _) w _ Q
          cases e2 : truD S1 d with
          | none => rw [e2] at q; exact q.elim
          | some t =>
            have e3 : tru1 d S1 = .ok t S1 := by unfold tru1; rw [e2]
            rw [e3]
            rw [e2] at q
            cases t with
            | false => exact q
            | true =>
              have q : oR X.K cl B eqR (tru1 d S1) w (xc xa W σ) Q := q
              rw [e3] at q
              exact q
        | exc c S1 => rw [e] at q; exact q
        | stuck => rw [e] at q; exact q
      obtain ⟨w1, ρ1, S1, he1, hr1, q1⟩ := tT_bind he hr q'
      refine ⟨w1, ρ1, S1, he1, hr1, q1.imp fun t H1 ⟨w2, S2, l2, hr2, q2⟩ => ?_⟩
      cases t with
      | false => rw [if_neg (by decide)] at q2 ⊢; exact ⟨w2, ρ, S2, he.mono l2.ex, hr2, q2⟩
      | true => rw [if_pos rfl] at q2 ⊢; exact q2 w2 _ H1 (.refl _) rfl hr2

/-! ### parts of slices, tests of comprehensions -/
theorem _root_.L2.PO.imp' {X : Cx} {e : Option Expr} {t t' : TO} (h : PO X e t) (i : ∀ σ H Q, t' σ H Q → t σ H Q) : PO X e t' := ⟨fun pins s σ H Q I q => h.run pins s σ H Q I (i σ H Q q)⟩
theorem ok_o0 : OkO .none := fun {X cl xa B b W k sc e} G h lv => by
  cases e with
  | none => exact po_none.imp' fun σ H Q ⟨w, ρ, S, he, hr, q⟩ => q w none H (.refl _) rfl hr
  | some => simp [chkM] at h
theorem ok_o1 {m : ME} (i1 : OkE m) : OkO (.some m) := fun {X cl xa B b W k sc e} G h lv => by
  cases e with
  | none => simp [chkM] at h
  | some e =>
    simp only [chkM] at h
    refine (po_some (i1 G h lv)).imp' fun σ H Q ⟨w, ρ, S, he, hr, q⟩ => ?_
    have q' : oR X.K cl B (fun _ d o => intO d = some o) ((evE b m ρ S).bind fun d S1 => intR (some d) S1) w (xc xa W σ) Q := by
      simp only [evO] at q
      cases e : evE b m ρ S with
      | ok d S1 => rw [e] at q; exact q
      | exc c S1 => rw [e] at q; exact q
      | stuck => rw [e] at q; exact q
    refine (tE_bind he hr q').imp fun x H1 ⟨w1, d, S1, l1, r1, hr1, q1⟩ => ?_
    unfold intR at q1
    cases d with
    | int i =>
      rw [rep_int r1]
      exact ⟨i, rfl, q1 w1 _ H1 (.refl _) rfl hr1⟩
    | _ => exact q1.elim
theorem ok_f0 : OkF .none := fun {X cl xa B b W k sc es} G h lv => by
  cases es with
  | nil => exact pts_nil.imp fun σ H Q ⟨w, ρ, S, he, hr, q⟩ => q w true H (.refl _) rfl hr
  | cons => simp [chkF] at h
theorem ok_f1 {m : ME} (i1 : OkT m) : OkF (.some m) := fun {X cl xa B b W k sc es} G h lv => by
  match es, h with
  | [], h => simp [chkF] at h
  | _ :: _ :: _, h => simp [chkF] at h
  | [e], h =>
    simp only [chkF, Bool.and_eq_true] at h
    refine (pts_one (i1 G h.2 h.1 lv)).imp fun σ H Q ⟨w, ρ, S, he, hr, q⟩ => ⟨w, ρ, S, he, hr, ?_⟩
    simp only [evO] at q
    cases e : evE b m ρ S with
    | ok d S1 => rw [e] at q; exact q
    | exc c S1 => rw [e] at q; exact q
    | stuck => rw [e] at q; exact q

/-! ### what is walked -/
theorem ok_iexp {m : ME} (i1 : OkE m) : OkI (.exp m) := fun {X cl xa B b W k sc tg e} G h lv => by
  simp only [chkI] at h
  refine ⟨?_, nofold (chk_odd h) _⟩
  refine (pi_any (i1 G h lv)).imp fun σ H Q ⟨w, ρ, S, he, hr, q⟩ => ?_
  simp only [evI] at q
  refine (tE_bind he hr q).imp fun x H1 ⟨w1, d, S1, l1, r1, hr1, q1⟩ => ?_
  split at q1
  · rename_i kk ds hd
    obtain ⟨a, vs, rfl, sq, rs⟩ := seq_of hr1 hd r1
    exact .inl ⟨kk, a, vs, rfl, sq, q1 w1 _ H1 (.refl _) (walk_seq hd r1) hr1⟩
  · split at q1
    · rename_i z _
      rw [rep_str r1]
      exact .inr ⟨z, rfl, q1 w1 _ H1 (.refl _) walk_str hr1⟩
    · exact q1.elim
theorem ok_irng1 {m : ME} (i1 : OkE m) : OkI (.rng1 m) := fun {X cl xa B b W k sc tg e} G h lv => by
  simp only [chkI] at h
  split at h
  · simp only [Bool.and_eq_true, decide_eq_true_eq] at h
    obtain ⟨⟨rfl, h1⟩, h2⟩ := h
    refine ⟨?_, fun _ => rfl⟩
    refine (pi_range1 (G.gl h1).1 (G.bts _ (by decide)) (pa_cons (i1 G h2 lv) pa_nil (star_of (chk_odd h2) _ _)) (star_of (chk_odd h2) _ _)).imp fun σ H Q ⟨w, ρ, S, he, hr, q⟩ => ?_
    simp only [evI] at q
    refine (tE_bind he hr q).imp fun x H1 ⟨w1, d, S1, l1, r1, hr1, q1⟩ => ?_
    split at q1
    · split at q1
      · rename_i j hj
        rw [rep_int r1]
        exact ⟨j, rfl, hj.1, hj.2, q1 w1 _ H1 (.refl _) walk_rng hr1⟩
      · exact q1.elim
    · exact q1.elim
  · cases h
theorem ok_irng2 {m n : ME} (i1 : OkE m) (i2 : OkE n) : OkI (.rng2 m n) := fun {X cl xa B b W k sc tg e} G h lv => by
  simp only [chkI] at h
  split at h
  · simp only [Bool.and_eq_true, decide_eq_true_eq] at h
    obtain ⟨⟨⟨rfl, h1⟩, h2⟩, h3⟩ := h
    refine ⟨?_, fun _ => rfl⟩
    refine (pi_range2 (G.gl h1).1 (G.bts _ (by decide)) (pa_cons (i1 G h2 lv.1) (pa_cons (i2 G h3 lv.2) pa_nil (star_of (chk_odd h3) _ _)) (star_of (chk_odd h2) _ _)) (by rw [star_of (chk_odd h2), star_of (chk_odd h3)]; rfl) (star_of (chk_odd h3) _ _)).imp fun σ H Q ⟨w, ρ, S, he, hr, q⟩ => ?_
    simp only [evI] at q
    refine (tE_bind he hr q).imp fun x H1 ⟨w1, d, S1, l1, r1, hr1, q1⟩ => (tE_bind (he.mono l1.ex) hr1 q1).imp fun y H2 ⟨w2, e, S2, l2, r2, hr2, q2⟩ => ?_
    split at q2
    · split at q2
      · rename_i hj
        rw [rep_int r1, rep_int r2]
        exact ⟨_, _, rfl, ⟨hj.1.1, hj.1.2, hj.2.1, hj.2.2⟩, q2 w2 _ H2 (.refl _) walk_rng hr2⟩
      · exact q2.elim
    · exact q2.elim
  · cases h
theorem ok_ienum {m : ME} (i1 : OkE m) : OkI (.enum m) := fun {X cl xa B b W k sc tg e} G h lv => by
  simp only [chkI] at h
  split at h
  · simp only [Bool.and_eq_true, decide_eq_true_eq] at h
    obtain ⟨⟨⟨ht, rfl⟩, h1⟩, h2⟩ := h
    refine ⟨?_, fun _ => rfl⟩
    cases tg with
    | Tuple elts kk tpos =>
      refine (pi_enumG (G.gl h1).1 (G.bts _ (by decide)) (pa_cons (i1 G h2 lv) pa_nil (star_of (chk_odd h2) _ _)) (star_of (chk_odd h2) _ _)).imp fun σ H Q ⟨w, ρ, S, he, hr, q⟩ => ?_
      simp only [evI] at q
      refine (tE_bind he hr q).imp fun x H1 ⟨w1, d, S1, l1, r1, hr1, q1⟩ => ?_
      split at q1
      · rename_i kk ds hd
        obtain ⟨a, vs, rfl, sq, rs⟩ := seq_of hr1 hd r1
        exact ⟨kk, a, vs, rfl, sq, q1 w1 _ H1 (.refl _) (walk_enum hd r1) hr1⟩
      · exact q1.elim
    | _ => simp [isTup] at ht
  · cases h
theorem ok_izip {m n : ME} (i1 : OkE m) (i2 : OkE n) : OkI (.zip m n) := fun {X cl xa B b W k sc tg e} G h lv => by
  simp only [chkI] at h
  split at h
  · simp only [Bool.and_eq_true, decide_eq_true_eq] at h
    obtain ⟨⟨⟨⟨ht, rfl⟩, h1⟩, h2⟩, h3⟩ := h
    refine ⟨?_, fun _ => rfl⟩
    cases tg with
    | Tuple elts kk tpos =>
      refine (pi_zipG (G.gl h1).1 (G.bts _ (by decide)) (pa_cons (i1 G h2 lv.1) (pa_cons (i2 G h3 lv.2) pa_nil (star_of (chk_odd h3) _ _)) (star_of (chk_odd h2) _ _)) (star_of (chk_odd h2) _ _) (by rw [star_of (chk_odd h3)]; rfl)).imp fun σ H Q ⟨w, ρ, S, he, hr, q⟩ => ?_
      simp only [evI] at q
      refine (tE_bind he hr q).imp fun x H1 ⟨w1, d, S1, l1, r1, hr1, q1⟩ => (tE_bind (he.mono l1.ex) hr1 q1).imp fun y H2 ⟨w2, e, S2, l2, r2, hr2, q2⟩ => ?_
      split at q2
      · rename_i k1 ds k2 gs hd hg
        obtain ⟨a, vs, rfl, sq, rs⟩ := seq_of hr2 hd (r1.mono l2)
        obtain ⟨a2, vs2, rfl, sq2, rs2⟩ := seq_of hr2 hg r2
        exact ⟨k1, k2, a, a2, vs, vs2, rfl, sq, sq2, q2 w2 _ H2 (.refl _) (walk_zip hd hg (r1.mono l2) r2) hr2⟩
      · exact q2.elim
    | _ => simp [isTup] at ht
  · cases h
end

/-! ### all together -/
mutual
theorem okE : ∀ m : ME, OkE m
  | .var i => ok_var
  | .frz i => ok_frz
  | .cst d => ok_cst
  | .tup es => ok_tup (okEs es)
  | .lst m es => ok_lst (okEs es)
  | .bin m o a b => ok_bin (okE a) (okE b)
  | .neg a => ok_neg (okE a)
  | .not_ a => ok_not (okE a)
  | .cmp o a b => ok_cmp (okE a) (okE b)
  | .chain o p a b c => ok_chain (okE a) (okE b) (okE c)
  | .and_ es => ok_and (okA es)
  | .or_ es => ok_or (okR es)
  | .ite c a b => ok_ite (okT c) (okE a) (okE b)
  | .ix a i => ok_ix (okE a) (okE i)
  | .sl m a lo hi => ok_sl (okE a) (okO lo) (okO hi)
  | .rev m a => ok_rev (okE a)
  | .call x g es => ok_call (okEs es)
  | .bi m o es => ok_bi (okEs es)
  | .isi a t => ok_isi (okE a)
  | .bm m o a es => ok_bm (okE a) (okEs es)
  | .lc m own elt tg it c => ok_lc (okE elt) (okI it) (okF c)
  | .lc2 .. => ok_lc2
  | .fld .. => ok_fld
  | .mk .. => ok_mk
  | .meth .. => ok_meth
theorem okT : ∀ m : ME, OkT m
  | .var i => ok_truth rfl ok_var
  | .frz i => ok_truth rfl ok_frz
  | .cst d => ok_truth rfl ok_cst
  | .tup es => ok_truth rfl (ok_tup (okEs es))
  | .lst m es => ok_truth rfl (ok_lst (okEs es))
  | .bin m o a b => ok_truth rfl (ok_bin (okE a) (okE b))
  | .neg a => ok_truth rfl (ok_neg (okE a))
  | .not_ a => ok_tnot (okT a)
  | .cmp o a b => ok_tcmp (okE a) (okE b)
  | .chain o p a b c => ok_tchain (okE a) (okE b) (okE c)
  | .and_ es => ok_tand (okTA es)
  | .or_ es => ok_tor (okTR es)
  | .ite c a b => ok_tite
  | .ix a i => ok_truth rfl (ok_ix (okE a) (okE i))
  | .sl m a lo hi => ok_truth rfl (ok_sl (okE a) (okO lo) (okO hi))
  | .rev m a => ok_truth rfl (ok_rev (okE a))
  | .call x g es => ok_truth rfl (ok_call (okEs es))
  | .bi m o es => ok_truth rfl (ok_bi (okEs es))
  | .isi a t => ok_truth rfl (ok_isi (okE a))
  | .bm m o a es => ok_truth rfl (ok_bm (okE a) (okEs es))
  | .lc m own elt tg it c => ok_truth rfl (ok_lc (okE elt) (okI it) (okF c))
  | .lc2 .. => ok_truth rfl ok_lc2
  | .fld .. => ok_truth rfl ok_fld
  | .mk .. => ok_truth rfl ok_mk
  | .meth .. => ok_truth rfl ok_meth
theorem okEs : ∀ m : MEs, OkEs m
  | .nil => ok_nil
  | .cons e es => ok_cons (okE e) (okEs es)
theorem okA : ∀ m : MEs, OkA m
  | .nil => ok_a0
  | .cons e .nil => ok_a1 (okE e)
  | .cons e (.cons e2 es) => ok_a2 (okE e) (okA (.cons e2 es))
theorem okR : ∀ m : MEs, OkR m
  | .nil => ok_r0
  | .cons e .nil => ok_r1 (okE e)
  | .cons e (.cons e2 es) => ok_r2 (okE e) (okR (.cons e2 es))
theorem okTA : ∀ m : MEs, OkTA m
  | .nil => ok_ta0
  | .cons e .nil => ok_ta1 (okT e)
  | .cons e (.cons e2 es) => ok_ta2 (okT e) (okTA (.cons e2 es))
theorem okTR : ∀ m : MEs, OkTR m
  | .nil => ok_tr0
  | .cons e .nil => ok_tr1 (okT e)
  | .cons e (.cons e2 es) => ok_tr2 (okT e) (okTR (.cons e2 es))
theorem okO : ∀ m : MO, OkO m
  | .none => ok_o0
  | .some e => ok_o1 (okE e)
theorem okF : ∀ m : MO, OkF m
  | .none => ok_f0
  | .some e => ok_f1 (okT e)
theorem okI : ∀ m : MI, OkI m
  | .exp e => ok_iexp (okE e)
  | .rng1 a => ok_irng1 (okE a)
  | .rng2 a b => ok_irng2 (okE a) (okE b)
  | .enum e => ok_ienum (okE e)
  | .zip a b => ok_izip (okE a) (okE b)
  | .zip3 a b c => ok_zip3
end
end Mn

/-! Mini: SOUNDNESS of statements. -/
namespace Mn
open PySem PySem.Spec PyProof.Rows L2

/-! ### the check -/
def chkG (N : List Str) (sc : Scope) : MT → Expr → Bool
  | .var i, e => chkP1 N sc i e
  | .sub a i, e => match e with
    | .Subscript x y _ => chkE N sc a x && chkE N sc i y
    | _ => false
  | .attr a C f, e => false
def chkGs (N : List Str) (sc : Scope) : List MT → List Expr → Bool
  | [], [] => true
  | t :: ts, e :: es => chkG N sc t e && chkGs N sc ts es
  | _, _ => false
def isLc : Expr → Bool
  | .ListComp .. => true
  | _ => false
def isNm : Expr → Bool
  | .Name .. => true
  | _ => false
def isLN (sc : Scope) : Expr → Bool
  | .Name x _ => decide (sc.names.lookup x = some .local)
  | _ => false
/-- no stores from the right -/
def noSw (sc : Scope) (ts : List Expr) (e : Expr) : Bool := match e with
  | .Tuple vs _ _ => !(ts.length == 2 || ts.length == 3) || ts.any (fun t => !isLN sc t) || (vs.all (foldedForSure 8) && !vs.any fun | .Starred .. => true | _ => false)
  | _ => true
/-- stores from the right: the names, the values -/
def parB (sc : Scope) (l : Nat) : List Expr → Bool
  | [] => true
  | .Name x p :: r => decide (sc.names.lookup x = some .local) && (p.line == l) && parB sc l r
  | _ => false
def parV (vs : List Expr) : Bool := vs.all (fun e => !oddE e) && !vs.all (foldedForSure 8) && !vs.all (constantsAlone 8)
mutual
def chkS (N : List Str) (sc : Scope) : MS → Stmt → Bool
  | .asg (.var i) m, s => match s with
    | .Assign [t] e _ => chkP1 N sc i t && chkE N sc m e
    | _ => false
  | .asg (.sub a j) m, s => match s with
    | .Assign [.Subscript x y _] e _ => chkE N sc a x && chkE N sc j y && chkE N sc m e
    | _ => false
  | .asg (.attr a C f) m, s => false
  | .asgT ts m, s => match s with
    | .Assign [.Tuple es _ _] e _ => chkGs N sc ts es && chkE N sc m e && noSw sc es e
    | _ => false
  | .par [i, j] ms, s => match s with
    | .Assign [.Tuple [.Name x px, .Name y py] _ _] (.Tuple [a, b] _ _) _ => decide (N[i]? = some x) && decide (N[j]? = some y) && (i != j) && chkEs N sc ms [a, b] && parB sc px.line [.Name x px, .Name y py] && parV [a, b]
    | _ => false
  | .par [i, j, l] ms, s => match s with
    | .Assign [.Tuple [.Name x px, .Name y py, .Name z pz] _ _] (.Tuple [a, b, c] _ _) _ => decide (N[i]? = some x) && decide (N[j]? = some y) && decide (N[l]? = some z) && (i != j) && (i != l) && (j != l) && chkEs N sc ms [a, b, c]
        && parB sc px.line [.Name x px, .Name y py, .Name z pz] && parV [a, b, c]
    | _ => false
  | .par _ _, s => false
  | .expr m, s => match s with
    | .Expr e _ => chkE N sc m e && !isLc e
    | _ => false
  | .ret m, s => match s with
    | .Return (some e) _ => chkE N sc m e
    | _ => false
  | .ifs c a b, s => match s with
    | .If t x y _ => tOk c && chkE N sc c t && chkSs N sc a x && chkSs N sc b y
    | _ => false
  | .for_ p it body, s => match s with
    | .For t i x [] _ => chkP N sc p t && chkI N sc it (isTup t) i && chkSs N sc body x
    | _ => false
  | .whil c body, s => match s with
    | .While t x [] _ => tOk c && chkE N sc c t && chkSs N sc body x
    | _ => false
  | .rais x _, s => match s with
    | .Raise (some (.Call (.Name y _) [] [] _)) none _ => decide (y = x) && glB sc y
    | _ => false
  | .tryc body hs, s => match s with
    | .Try x (h :: r) [] [] _ => chkSs N sc body x && chkHs sc hs (h :: r)
    | _ => false
def chkSs (N : List Str) (sc : Scope) : MSs → List Stmt → Bool
  | .nil, l => match l with
    | [] => true
    | _ => false
  | .cons m ms, l => match l with
    | s :: r => chkS N sc m s && chkSs N sc ms r
    | _ => false
def chkHs (sc : Scope) : List (Str × Nat × Str) → List ExceptHandler → Bool
  | [], [] => true
  | h :: hs, .ExceptHandler (some (.Name y _)) none [.Return (some (.Constant (.str z) _ _)) _] _ :: r => decide (y = h.1) && glB sc y && decide (z = h.2.2) && chkHs sc hs r
  | _, _ => false
end

/-! ### what is asked of the module -/
structure ExAt (K : PySem.W.Frag) (mg : Str → Option Value) (xa : Nat → Addr) (x : Str) (c : Nat) : Prop where
  gC : mg x = some (.ref (xa c))
  kC : PySem.W.keepIn K (.ref (xa c)) = true
  ex : ∃ B newId initId bmB, ExcBaseFacts B newId initId bmB ∧ PySem.W.excIn K (xa c) bmB newId = true
  h1 : PySem.W.subIn K (.ref (xa c)) (.type "BaseException") = some true
  h2 : PySem.W.typeIn K (.ref (xa c)) = some (.type "type")
def ExEq (K : PySem.W.Frag) (xa : Nat → Addr) (c c' : Nat) : Prop := PySem.W.exmOne K (.ref (xa c)) (.ref (xa c')) = some (c == c')
structure Lk where
  P : Str → FnSem → Prop
  E : Str → Nat → Prop
  Q : Nat → Nat → Prop
def LvT (L : Lk) : MT → Prop
  | .var _ => True
  | .sub a i => LvE L.P a ∧ LvE L.P i
  | .attr a _ _ => LvE L.P a
def LvTs (L : Lk) : List MT → Prop
  | [] => True
  | t :: ts => LvT L t ∧ LvTs L ts
mutual
def LvS (L : Lk) : MS → Prop
  | .asg t e => LvT L t ∧ LvE L.P e
  | .asgT ts e => LvTs L ts ∧ LvE L.P e
  | .par _ es => LvEs L.P es
  | .expr e => LvE L.P e
  | .ret e => LvE L.P e
  | .ifs c a b => LvE L.P c ∧ LvSs L a ∧ LvSs L b
  | .for_ _ it body => LvI L.P it ∧ LvSs L body
  | .whil c body => LvE L.P c ∧ LvSs L body
  | .rais x c => L.E x c
  | .tryc body hs => LvSs L body ∧ (∀ h ∈ hs, L.E h.1 h.2.1) ∧ ∀ h ∈ hs, ∀ h' ∈ hs, L.Q h.2.1 h'.2.1
def LvSs (L : Lk) : MSs → Prop
  | .nil => True
  | .cons s r => LvS L s ∧ LvSs L r
end
structure GoodS (X : Cx) (cl xa : Nat → Addr) (B : List Nat) (b : Nat) (W : WX) (k : Nat) (sc : Scope) : Prop extends Good X cl xa B b W k sc where
  po : PassesOwn (model X.prog X.w) X.A X.env X.xe
  stk : X.stack = X.env :: X.outer
  frm : X.env.frame = some X.env.locals
  kind : X.env.scope.kind = .function
  fnl : ∀ x, X.fn x = true
abbrev LkX (X : Cx) (cl xa : Nat → Addr) (k : Nat) : Lk := ⟨Lv X cl xa k, ExAt X.K X.mg xa, ExEq X.K xa⟩

/-! ### what a statement's result wants -/
def sR (K : PySem.W.Frag) (cl : Nat → Addr) (B : List Nat) (r : SRes) (w : Wd) (Xc : Nat → L2.St → Hp → Prop) (D : Ends) : Prop := match r with
  | .nx ρ S => ∀ (w' : Wd) (σ : L2.St) (H' : Hp), w.le w' → EnvR K w' ρ σ → HR K cl B w' H' S → D.nx σ H'
  | .rt d S => ∀ (w' : Wd) (x : V) (H' : Hp), w.le w' → Rep K w' d x → HR K cl B w' H' S → D.rt x H'
  | .exc c ρ S => ∀ (w' : Wd) (σ : L2.St) (H' : Hp), w.le w' → EnvR K w' ρ σ → HR K cl B w' H' S → Xc c σ H'
  | .stuck => False
section
variable {K : PySem.W.Frag} {cl : Nat → Addr} {B : List Nat} {w : Wd} {Xc : Nat → L2.St → Hp → Prop} {D : Ends}
theorem sR.le {r : SRes} {w' : Wd} (h : sR K cl B r w Xc D) (l : w.le w') : sR K cl B r w' Xc D := by
  cases r with
  | nx ρ S => exact fun w2 x H' l2 r hr => h w2 x H' (l.trans l2) r hr
  | rt ρ S => exact fun w2 x H' l2 r hr => h w2 x H' (l.trans l2) r hr
  | exc c ρ S => exact fun w2 x H' l2 r hr => h w2 x H' (l.trans l2) r hr
  | stuck => exact h
theorem sR.seq {r : SRes} {k : Env → Store → SRes} (h : sR K cl B (r.seq k) w Xc D) {D' : Ends} (hn : ∀ w' ρ S' σ H', w.le w' → EnvR K w' ρ σ → HR K cl B w' H' S' → sR K cl B (k ρ S') w' Xc D → D'.nx σ H') (hr : ∀ x H', D.rt x H' → D'.rt x H') : sR K cl B r w Xc D' := by
  cases r with
  | nx ρ S => exact fun w' σ H' l he hr => hn w' ρ S σ H' l he hr (h.le l)
  | rt d S => exact fun w' x H' l r hh => hr x H' (h w' x H' l r hh)
  | exc c ρ S => exact h
  | stuck => exact h
theorem sR.st {α β : Type} {R : Wd → α → β → Prop} {r : Res α} {ρ : Env} {σ : L2.St} {k : α → Store → SRes} (he : EnvR K w ρ σ) (h : sR K cl B (r.st ρ k) w Xc D) :
    oR K cl B R r w (fun c H' => Xc c σ H') (fun x H' => ∃ w' a S', w.le w' ∧ R w' a x ∧ HR K cl B w' H' S' ∧ sR K cl B (k a S') w' Xc D) := by
  cases r with
  | ok a S => exact fun w' x H' l r hr => ⟨w', a, S, l, r, hr, h.le l⟩
  | exc c S => exact fun w' H' l hr => h w' σ H' l (he.mono l.ex) hr
  | stuck => exact h
theorem sR.imp {r : SRes} {D' : Ends} (h : sR K cl B r w Xc D) (hn : ∀ σ H', D.nx σ H' → D'.nx σ H') (hr : ∀ x H', D.rt x H' → D'.rt x H') : sR K cl B r w Xc D' := by
  cases r with
  | nx ρ S => exact fun w' σ H' l he hh => hn _ _ (h w' σ H' l he hh)
  | rt d S => exact fun w' x H' l r hh => hr x H' (h w' x H' l r hh)
  | exc c ρ S => exact h
  | stuck => exact h
end
abbrev xS (xa : Nat → Addr) (W : WX) : Nat → L2.St → Hp → Prop := fun c σ H' => W (.ref (xa c)) none σ H'
section
variable (K : PySem.W.Frag) (cl xa : Nat → Addr) (B : List Nat) (b : Nat) (W : WX)
def tS (m : MS) : TS := fun D σ H => ∃ w ρ S, EnvR K w ρ σ ∧ HR K cl B w H S ∧ sR K cl B (evS b m ρ S) w (xS xa W) D
def tSs (m : MSs) : TS := fun D σ H => ∃ w ρ S, EnvR K w ρ σ ∧ HR K cl B w H S ∧ sR K cl B (evSs b m ρ S) w (xS xa W) D
def tG (t : MT) : TG := fun v σ H Q => ∃ w ρ S d rt, EnvR K w ρ σ ∧ HR K cl B w H S ∧ Rep K w d v ∧ sR K cl B (stT b t d ρ S) w (xS xa W) { nx := Q, rt := rt }
def tGs (ts : List MT) : TGs := fun vs σ H Q => ∃ w ρ S ds rt, EnvR K w ρ σ ∧ HR K cl B w H S ∧ Reps K w ds vs ∧ sR K cl B (stTs b ts ds ρ S) w (xS xa W) { nx := Q, rt := rt }
end
def OkS (m : MS) : Prop := ∀ {X : Cx} {cl xa : Nat → Addr} {B : List Nat} {b : Nat} {W : WX} {k : Nat} {sc : Scope} {s : Stmt}, GoodS X cl xa B b W k sc → chkS X.N sc m s = true → LvS (LkX X cl xa k) m → PS X s (tS X.K cl xa B b W m)
def OkSs (m : MSs) : Prop := ∀ {X : Cx} {cl xa : Nat → Addr} {B : List Nat} {b : Nat} {W : WX} {k : Nat} {sc : Scope} {s : List Stmt}, GoodS X cl xa B b W k sc → chkSs X.N sc m s = true → LvSs (LkX X cl xa k) m → PSs X s (tSs X.K cl xa B b W m)
theorem _root_.L2.PS.imp' {X : Cx} {s : Stmt} {t t' : TS} (h : PS X s t) (i : ∀ D σ H, t' D σ H → t D σ H) : PS X s t' := ⟨fun pins s σ H D I q => h.run pins s σ H D I (i D σ H q)⟩
theorem _root_.L2.PSs.imp' {X : Cx} {s : List Stmt} {t t' : TS} (h : PSs X s t) (i : ∀ D σ H, t' D σ H → t D σ H) : PSs X s t' := ⟨fun pins s σ H D I q => h.run pins s σ H D I (i D σ H q)⟩
theorem _root_.L2.PG.imp' {X : Cx} {e : Expr} {t t' : TG} (h : PG X e t) (i : ∀ v σ H Q, t' v σ H Q → t v σ H Q) : PG X e t' := ⟨fun pins s σ H v u Q I r q => h.run pins s σ H v u Q I r (i v σ H Q q)⟩
theorem _root_.L2.PGs.imp' {X : Cx} {e : List Expr} {t t' : TGs} (h : PGs X e t) (i : ∀ v σ H Q, t' v σ H Q → t v σ H Q) : PGs X e t' := ⟨fun pins s σ H v u Q I r q => h.run pins s σ H v u Q I r (i v σ H Q q)⟩

section
variable {X : Cx} {cl xa : Nat → Addr} {B : List Nat} {b : Nat} {W : WX} {k : Nat} {sc : Scope} {w : Wd} {ρ : Env} {σ : L2.St} {H : Hp} {S : Store}
theorem st_tE {m : ME} {kk : D → Store → SRes} {D : Ends} {K : PySem.W.Frag} (he : EnvR K w ρ σ) (hr : HR K cl B w H S) (h : sR K cl B ((evE b m ρ S).st ρ kk) w (xS xa W) D) :
    tE K cl xa B b W m σ H fun x H' => ∃ w' d S', w.le w' ∧ Rep K w' d x ∧ HR K cl B w' H' S' ∧ sR K cl B (kk d S') w' (xS xa W) D := ⟨w, ρ, S, he, hr, h.st he⟩
theorem st_tT {m : ME} {kk : Bool → Store → SRes} {D : Ends} {K : PySem.W.Frag} (he : EnvR K w ρ σ) (hr : HR K cl B w H S) (h : sR K cl B ((evE b m ρ S).st ρ fun d S1 => match truD S1 d with | some true => kk true S1 | some false => kk false S1 | none => .stuck) w (xS xa W) D) :
    tT K cl xa B b W m σ H fun x H' => ∃ w' S', w.le w' ∧ HR K cl B w' H' S' ∧ sR K cl B (kk x S') w' (xS xa W) D := by
  have h' : sR K cl B (((evE b m ρ S).bind tru1).st ρ kk) w (xS xa W) D := by
    cases e : evE b m ρ S with
    | ok d S1 =>
      rw [e] at h
      have h : sR K cl B (match truD S1 d with | some true => kk true S1 | some false => kk false S1 | none => .stuck) w (xS xa W) D := h
      show sR K cl B ((tru1 d S1).st ρ kk) w _ D
      unfold tru1
      cases e2 : truD S1 d with
      | none => rw [e2] at h; exact h
      | some t => rw [e2] at h; cases t <;> exact h
    | exc c S1 => rw [e] at h; exact h
    | stuck => rw [e] at h; exact h
  refine ⟨w, ρ, S, he, hr, (h'.st (R := eqR) he).imp fun x H' ⟨w', a, S', l, e, hr', q⟩ => ?_⟩
  have e : a = x := e
  subst e
  exact ⟨w', S', l, hr', q⟩
theorem st_tEs {m : MEs} {kk : List D → Store → SRes} {D : Ends} {K : PySem.W.Frag} (he : EnvR K w ρ σ) (hr : HR K cl B w H S) (h : sR K cl B ((evEs b m ρ S).st ρ kk) w (xS xa W) D) :
    tEs K cl xa B b W m σ H fun x H' => ∃ w' d S', w.le w' ∧ Reps K w' d x ∧ HR K cl B w' H' S' ∧ sR K cl B (kk d S') w' (xS xa W) D := ⟨w, ρ, S, he, hr, h.st he⟩
theorem st_tI {m : MI} {kk : List D × Src → Store → SRes} {D : Ends} {K : PySem.W.Frag} (he : EnvR K w ρ σ) (hr : HR K cl B w H S) (h : sR K cl B ((evI b m ρ S).st ρ kk) w (xS xa W) D) :
    tI K cl xa B b W m σ H fun J H' => ∃ w' q S', w.le w' ∧ WalkD K cl B w' J q.1 q.2 ∧ HR K cl B w' H' S' ∧ sR K cl B (kk q S') w' (xS xa W) D := ⟨w, ρ, S, he, hr, h.st (R := fun w q J => WalkD K cl B w J q.1 q.2) he⟩

theorem GoodS.locL (G : GoodS X cl xa B b W k sc) : ∀ x, Loc sc x → Loc X.env.scope x := fun x h => by rw [G.hsc]; exact h
theorem sw_is {elt : Expr} {gs : List Comprehension} {scope : Scope} {pos py : Pos} {y : Str} {l : Nat} {env : PySem.Env} (hk : env.scope.kind = .function) :
    swapsWith (.ListComp elt gs scope pos) (some (.Name y py)) l env = pure (decide (env.scope.names.lookup y = some .local) && (py.line == pos.line) && !(scope.names.any fun (n, k) => n == y && (k == .local || k == .cell))) := by
  have hb : env.blockKind = .function := by unfold Env.blockKind; rw [hk]; rfl
  have hky : env.kindOf y = env.scope.names.lookup y := rfl
  have e1 : (env.scope.names.lookup y == some NameKind.local) = decide (env.scope.names.lookup y = some .local) := by
    cases h : env.scope.names.lookup y with
    | none => rfl
    | some k => cases k <;> rfl
  unfold swapsWith
  simp only [hb, hky, Expr.pos, e1]
  rfl
theorem sw_no {e : Expr} {m : ME} {N : List Str} {sc : Scope} (h : chkE N sc m e = true) (hl : isLc e = false) (t : Option Expr) (l : Nat) (env : PySem.Env) : swapsWith e t l env = pure false := by
  cases e with
  | ListComp => simp [isLc] at hl
  | SetComp => cases m <;> simp [chkE] at h
  | DictComp => cases m <;> simp [chkE] at h
  | _ => rfl
theorem fm_short {f : Expr → Option Str} {nm : Expr → Bool} (hf : ∀ e, nm e = false → f e = none) : ∀ {es : List Expr}, (es.any fun t => !nm t) = true → (es.filterMap f).length < es.length
  | [], h => by simp at h
  | e :: es, h => by
    have hle := List.length_filterMap_le f es
    rw [List.any_cons, Bool.or_eq_true] at h
    cases hn : nm e with
    | false =>
      rw [List.filterMap_cons_none (hf e hn), List.length_cons]
      omega
    | true =>
      rw [hn] at h
      have := fm_short hf (h.resolve_left (by simp))
      cases hfe : f e with
      | none => rw [List.filterMap_cons_none hfe, List.length_cons]; omega
      | some x => rw [List.filterMap_cons_some hfe, List.length_cons, List.length_cons]; omega
theorem no_stores {es : List Expr} {env : PySem.Env} {e : Expr} {kk : Nat} {pos : Pos} (h : noSw env.scope es e = true) : swappedStores [.Tuple es kk pos] e env = pure none := by
  cases e with
  | Tuple vs k2 p2 =>
    simp only [noSw, Bool.or_eq_true] at h
    unfold swappedStores
    simp only
    split
    · rfl
    · rename_i h1
      split
      · rfl
      · rename_i h2
        split
        · rfl
        · rename_i h3
          rcases h with (h | h) | h
          · exfalso; apply h1; rw [h]; rfl
          · exfalso; apply h3
            have := fm_short (nm := isLN env.scope) (f := fun x => match x with
                        | Expr.Name id pos =>
                          if
                              (env.kindOf id == some NameKind.local &&
                                  pos.line == (Option.map (fun x => x.pos.line) es.head?).getD 0) =
                                true then
                            some id
                          else none
                        | x => none) (fun e he => by
                          cases e with
                          | Name x p =>
                            simp only [isLN, decide_eq_false_iff_not] at he
                            have hk : (env.kindOf x == some NameKind.local) = false := by
                              rw [Bool.eq_false_iff]
                              intro hb
                              exact he (show env.kindOf x = some NameKind.local by simpa using hb)
                            simp only [hk, Bool.false_and, Bool.false_eq_true, if_false]
                          | _ => rfl) h
            rw [Bool.or_eq_true]
            left
            rw [bne_iff_ne]
            exact Nat.ne_of_lt this
          · rw [Bool.and_eq_true] at h
            rw [if_pos h.1]
  | _ => rfl
theorem no_star {vs : List Expr} (h : parV vs = true) {f : Expr → Bool} (hf : ∀ e, oddE e = false → f e = false) : vs.any f = false := by
  simp only [parV, Bool.and_eq_true, List.all_eq_true, Bool.not_eq_true'] at h
  rw [List.any_eq_false]
  intro e he
  rw [hf e (h.1.1 e he)]
  decide
theorem par_stores2 {x y : Str} {px py pt p2 : Pos} {kt k2 : Nat} {a b : Expr} {env : PySem.Env} (hk : env.scope.kind = .function) (h1 : parB env.scope px.line [.Name x px, .Name y py] = true) (h2 : parV [a, b] = true) (hne : x ≠ y) :
    swappedStores [.Tuple [.Name x px, .Name y py] kt pt] (.Tuple [a, b] k2 p2) env = pure (some [x, y]) := by
  have hb : env.blockKind = .function := by unfold Env.blockKind; rw [hk]; rfl
  have h2' := h2
  simp only [parB, Bool.and_eq_true, decide_eq_true_eq, Bool.and_true] at h1
  simp only [parV, Bool.and_eq_true, Bool.not_eq_true'] at h2
  obtain ⟨⟨hx, _⟩, hy, hl⟩ := h1
  obtain ⟨⟨h3, h4⟩, h5⟩ := h2
  have kx : env.kindOf x = some .local := hx
  have ky : env.kindOf y = some .local := hy
  have d2 : ([x, y] : List Str).eraseDups.length = 2 := by
    have : (y == x) = false := by simpa using Ne.symm hne
    simp [List.eraseDups_cons, this]
  unfold swappedStores
  simp only [hb, List.head?, Option.map, Option.getD, Expr.pos, List.filterMap, kx, ky, hl, h4, h5, beq_self_eq_true, Bool.and_true, if_true, d2]
  split
  · rename_i h; simp at h
  · split
    · rename_i h
      rw [no_star h2' (fun e he => by cases e <;> first | rfl | simp [oddE] at he)] at h
      cases h
    · rfl
theorem par_stores3 {x y z : Str} {px py pz pt p2 : Pos} {kt k2 : Nat} {a b c : Expr} {env : PySem.Env} (hk : env.scope.kind = .function) (h1 : parB env.scope px.line [.Name x px, .Name y py, .Name z pz] = true) (h2 : parV [a, b, c] = true) (hne : x ≠ y) (hxz : x ≠ z) (hyz : y ≠ z) :
    swappedStores [.Tuple [.Name x px, .Name y py, .Name z pz] kt pt] (.Tuple [a, b, c] k2 p2) env = pure (some [x, y, z]) := by
  have hb : env.blockKind = .function := by unfold Env.blockKind; rw [hk]; rfl
  have h2' := h2
  simp only [parB, Bool.and_eq_true, decide_eq_true_eq, Bool.and_true] at h1
  simp only [parV, Bool.and_eq_true, Bool.not_eq_true'] at h2
  obtain ⟨⟨hx, _⟩, ⟨hy, hl⟩, hz, hl2⟩ := h1
  obtain ⟨⟨h3, h4⟩, h5⟩ := h2
  have kx : env.kindOf x = some .local := hx
  have ky : env.kindOf y = some .local := hy
  have kz : env.kindOf z = some .local := hz
  have d2 : ([x, y, z] : List Str).eraseDups.length = 3 := by
    have e1 : (y == x) = false := by simpa using Ne.symm hne
    have e2 : (z == x) = false := by simpa using Ne.symm hxz
    have e3 : (z == y) = false := by simpa using Ne.symm hyz
    simp [List.eraseDups_cons, e1, e2, e3]
  unfold swappedStores
  simp only [hb, List.head?, Option.map, Option.getD, Expr.pos, List.filterMap, kx, ky, kz, hl, hl2, h4, h5, beq_self_eq_true, Bool.and_true, if_true, d2]
  split
  · rename_i h; simp at h
  · split
    · rename_i h
      rw [no_star h2' (fun e he => by cases e <;> first | rfl | simp [oddE] at he)] at h
      cases h
    · rfl

/-! ### targets -/
theorem okG {t : MT} {e : Expr} (G : GoodS X cl xa B b W k sc) (h : chkG X.N sc t e = true) (lv : LvT (LkX X cl xa k) t) : PG X e (tG X.K cl xa B b W t) ∧ ∀ es, (assignEach (e :: es) X.env) = (false, assign e X.env) :: assignEach es X.env := by
  cases t with
  | var i =>
    obtain ⟨h1, h2⟩ := chkP1_pg G.nd h G.locL (fun x _ => .inl (G.fnl x))
    refine ⟨h1.imp' fun v σ H Q ⟨w, ρ, S, d, rt, he, hr, r, q⟩ => ?_, h2⟩
    simp only [stT] at q
    split at q
    · exact q w _ H (.refl _) (he.set r) hr
    · exact q.elim
  | sub a i =>
    cases e with
    | Subscript x y pos =>
      simp only [chkG, Bool.and_eq_true] at h
      have hp : ∀ v, assign (.Subscript x y pos) X.env v = (do
          let ov ← holding [v] (eval x X.env)
          let iv ← holding [v, ov] (eval y X.env)
          standAt pos
          holding [v, ov, iv] (setItem ov iv v)
          release [v, ov, iv] []) := fun v => by
        have := chk_odd h.2
        cases y with
        | Slice => simp [oddE] at this
        | _ => rfl
      refine ⟨(pg_sub (okE a G.toGood h.1 lv.1) (okE i G.toGood h.2 lv.2) set_list hp).imp' fun v σ H Q ⟨w, ρ, S, d, rt, he, hr, r, q⟩ => ?_, fun es => rfl⟩
      simp only [stT] at q
      refine (st_tE he hr q).imp fun x1 H1 ⟨w1, d1, S1, l1, r1, hr1, q1⟩ => (st_tE (he.mono l1.ex) hr1 q1).imp fun y1 H2 ⟨w2, d2, S2, l2, r2, hr2, q2⟩ => ?_
      have r1' := r1.mono l2
      have rv := (r.mono l1).mono l2
      split at q2
      · split at q2
        · rename_i ds hs
          split at q2
          · rename_i j hj
            split at q2
            · rename_i S3 es
              simp only [Rep] at r1'
              obtain ⟨a1, rfl, ha⟩ := r1'
              obtain ⟨us, e1, e2, e3⟩ := hr2.cel _ _ _ ha hs
              have h3 := set_lst (vs' := us.set j v) G.hB hr2 ha hs e3 (e2.set rv j) (fun hp c hc => unders_set (D.under_pure hp) hc) es
              refine ⟨a1, us, _, j, rfl, rep_int r2, e1, ?_, q2 w2 σ _ (.refl _) (he.mono (l1.trans l2).ex) h3⟩
              rw [e2.length]
              exact hj
            · exact q2.elim
          · exact q2.elim
        · exact q2.elim
      · exact q2.elim
    | _ => simp [chkG] at h
  | attr a C f => simp [chkG] at h
theorem okGs (G : GoodS X cl xa B b W k sc) : ∀ {ts : List MT} {es : List Expr}, chkGs X.N sc ts es = true → LvTs (LkX X cl xa k) ts →
    PGs X es (tGs X.K cl xa B b W ts) ∧ (assignEach es X.env).length = ts.length ∧ (assignEach es X.env).findIdx? (·.1) = none
  | [], [], _, _ => ⟨pgs_nil.imp' fun vs σ H Q ⟨w, ρ, S, ds, rt, he, hr, rs, q⟩ => by
      cases ds with
      | nil =>
        simp only [Reps] at rs
        subst rs
        exact ⟨rfl, q w σ H (.refl _) he hr⟩
      | cons => exact q.elim, rfl, rfl⟩
  | [], _ :: _, h, _ => by simp [chkGs] at h
  | _ :: _, [], h, _ => by simp [chkGs] at h
  | t :: ts, e :: es, h, lv => by
    simp only [chkGs, Bool.and_eq_true] at h
    obtain ⟨h1, h2⟩ := okG G h.1 lv.1
    obtain ⟨h3, h4, h5⟩ := okGs G h.2 lv.2
    refine ⟨(pgs_cons h1 h3 (by rw [h2]; rfl)).imp' fun vs σ H Q ⟨w, ρ, S, ds, rt, he, hr, rs, q⟩ => ?_, by rw [h2, List.length_cons, h4]; rfl, ?_⟩
    · cases ds with
      | nil => exact q.elim
      | cons d ds =>
        simp only [Reps] at rs
        obtain ⟨v, r, rfl, r1, r2⟩ := rs
        simp only [stTs] at q
        refine ⟨v, r, rfl, w, ρ, S, d, rt, he, hr, r1, q.seq (D' := { nx := _, rt := rt }) (fun w' ρ' S' σ' H' l he' hr' q' => ?_) (fun _ _ h => h)⟩
        exact ⟨w', ρ', S', ds, rt, he', hr', r2.mono l, q'⟩
    · rw [h2, List.findIdx?_cons]
      simp [h5]
end
end Mn

/-! Mini: SOUNDNESS of statements, all together. -/
namespace Mn
open PySem PySem.Spec PyProof.Rows L2

/-- X() -/
theorem pmk_own0 {X : Cx} {C : Addr} {bmB : List Value} {B newId initId : String} {x : Str} {p pos : Pos} (F : ExcBaseFacts B newId initId bmB) (q : PySem.W.excIn X.K C bmB newId = true) (gC : X.mg x = some (.ref C)) (kC : PySem.W.keepIn X.K (.ref C) = true) (r : Raises X (.ref C)) (hg : Gl X x)
    (hdb : (x == ("__debug__" : Str)) = false) : PMk X (.Call (.Name x p) [] [] pos) (fun _ H Q => Q (.ref C) none H) := by
  intro pins s σ H Q I h
  refine wpAny_Call_Name_kw (ld_glob I hg gC ?_ hdb)
  refine PySem.W.callWith_K0 I.kIn kC ?_
  show wpAny _ _ (call (.ref C) []) _ _ _
  obtain ⟨bm, N, nm, qn, bs, hdct, sn, sub, ab, col, dd, k0, k1, k2, k3, k5, mN, hC, hN, hni, T⟩ := exc_obj I.kIn q
  refine wpAny_call_exc_subT F T hC hN hni (fun h' e hm => ?_) (by show 0 ≤ sizeLine; exact Nat.zero_le _)
  exact mk_of I hm r h (I.hok.gone hm.new)

section
variable {X : Cx} {cl xa : Nat → Addr} {B : List Nat} {b : Nat} {W : WX} {k : Nat} {sc : Scope} {w : Wd} {ρ : Env} {σ : L2.St} {H : Hp} {S : Store}
theorem tT_imp {K : PySem.W.Frag} {m : ME} {Q Q' : Bool → Hp → Prop} (h : tT K cl xa B b W m σ H Q) (i : ∀ x H', Q x H' → Q' x H') : tT K cl xa B b W m σ H Q' := let ⟨w, ρ, S, he, hr, q⟩ := h; ⟨w, ρ, S, he, hr, q.imp i⟩
theorem tI_imp {K : PySem.W.Frag} {m : MI} {Q Q' : It → Hp → Prop} (h : tI K cl xa B b W m σ H Q) (i : ∀ x H', Q x H' → Q' x H') : tI K cl xa B b W m σ H Q' := let ⟨w, ρ, S, he, hr, q⟩ := h; ⟨w, ρ, S, he, hr, q.imp i⟩
theorem lc_of {N : List Str} {sc : Scope} {m : ME} {x : Expr} {gs : List Comprehension} {scope : Scope} {pos : Pos} (h : chkE N sc m (.ListComp x gs scope pos) = true) :
    ∃ mm own elt tg it c t i ifs, m = .lc mm own elt tg it c ∧ gs = [⟨t, i, ifs, 0⟩] := by
  cases m with
  | lc mm own elt tg it c =>
    simp only [chkE] at h
    split at h
    · rename_i heq
      cases heq
      exact ⟨mm, own, elt, tg, it, c, _, _, _, rfl, rfl⟩
    · cases h
  | bm mm o a es => cases o <;> simp [chkE] at h
  | _ => simp [chkE] at h
theorem ok_sasg {i : Nat} {m : ME} : OkS (.asg (.var i) m) := fun {X cl xa B b W k sc s} G h lv => by
  simp only [chkS] at h
  split at h
  · rename_i t e pos
    rw [Bool.and_eq_true] at h
    have h1 := h.1
    unfold chkP1 at h1
    split at h1
    · rename_i x px
      rw [Bool.and_eq_true, decide_eq_true_eq] at h1
      have hl : Loc X.env.scope x := G.locL x (loc_of h1.2)
      have fin : ∀ {te : TE}, (∀ σ H Q, tE X.K cl xa B b W m σ H Q → te σ H Q) → ∀ D σ H, tS X.K cl xa B b W (.asg (.var i) m) D σ H → tAsg te (gName i) D σ H := fun {te} imp D σ H ⟨w, ρ, S, he, hr, q⟩ => by
        simp only [evS] at q
        refine imp _ _ _ ((st_tE he hr q).imp fun v H1 ⟨w1, d, S1, l1, r1, hr1, q1⟩ => ?_)
        simp only [stT] at q1
        split at q1
        · exact q1 w1 _ H1 (.refl _) ((he.mono l1.ex).set r1) hr1
        · exact q1.elim
      by_cases hlc : isLc e = true
      · cases e with
        | ListComp elt gs scope lpos =>
          obtain ⟨mm, own, el, tg, it, c, t, it', ifs, rfl, rfl⟩ := lc_of h.2
          obtain ⟨wi, g, tt, te, pi, ok, hg, ht, he, hf, imp⟩ := lc_parts (okE el) (okI it) (okF c) G.toGood h.2 lv.2
          have hsw := sw_is (elt := elt) (gs := [⟨t, it', ifs, 0⟩]) (scope := scope) (pos := lpos) (py := px) (y := x) (l := pos.line) (env := X.env) G.kind
          cases hb : (decide (X.env.scope.names.lookup x = some .local) && (px.line == lpos.line) && !(scope.names.any fun (n, k) => n == x && (k == .local || k == .cell))) with
          | true =>
            rw [hb] at hsw
            have hloc : X.env.scope.names.lookup x = some .local := by
              simp only [Bool.and_eq_true, decide_eq_true_eq] at hb
              exact hb.1.1
            exact (ps_setLc G.calm G.nd h1.1 hloc hsw pi ok hg ht he hf).imp' (fin imp)
          | false =>
            rw [hb] at hsw
            exact (ps_set G.nd h1.1 hl ((pe_lc G.calm G.nd pi ok hg ht he hf).imp imp) hsw (.inl (G.fnl x))).imp' (fin fun _ _ _ q => q)
        | _ => simp [isLc] at hlc
      · exact (ps_set G.nd h1.1 hl (okE m G.toGood h.2 lv.2) (sw_no h.2 (by simpa using hlc) _ _ _) (.inl (G.fnl x))).imp' (fin fun _ _ _ q => q)
    · cases h1
  · cases h
theorem ok_sput {a j m : ME} : OkS (.asg (.sub a j) m) := fun {X cl xa B b W k sc s} G h lv => by
  simp only [chkS] at h
  split at h
  · rename_i x y p e pos
    simp only [Bool.and_eq_true] at h
    obtain ⟨h1, h2⟩ := okG (t := .sub a j) (e := .Subscript x y p) G (by simp only [chkG, Bool.and_eq_true]; exact h.1) lv.1
    have hsw : swapsWithSole [.Subscript x y p] e pos.line X.env = pure false := by
      show swapsWith e (some (.Subscript x y p)) pos.line X.env = pure false
      unfold swapsWith
      split <;> rfl
    refine (ps_asg (okE m G.toGood h.2 lv.2) h1 hsw (by rfl) (by rfl)).imp' fun D σ H ⟨w, ρ, S, he, hr, q⟩ => ?_
    simp only [evS] at q
    refine (st_tE he hr q).imp fun v H1 ⟨w1, d, S1, l1, r1, hr1, q1⟩ => ?_
    exact ⟨w1, ρ, S1, d, _, he.mono l1.ex, hr1, r1, q1⟩
  · cases h
theorem ok_stup {ts : List MT} {m : ME} : OkS (.asgT ts m) := fun {X cl xa B b W k sc s} G h lv => by
  simp only [chkS] at h
  split at h
  · rename_i es kk p e pos
    simp only [Bool.and_eq_true] at h
    obtain ⟨h1, h2, h3⟩ := okGs G h.1.1 lv.1
    have hsw : swapsWithSole [.Tuple es kk p] e pos.line X.env = pure false := by
      show swapsWith e (some (.Tuple es kk p)) pos.line X.env = pure false
      unfold swapsWith
      split <;> rfl
    refine (ps_asg (okE m G.toGood h.1.2 lv.2) (pg_tup G.calm h1 h2 h3) hsw (no_stores (by rw [G.hsc]; exact h.2)) (by rfl)).imp' fun D σ H ⟨w, ρ, S, he, hr, q⟩ => ?_
    simp only [evS] at q
    refine (st_tE he hr q).imp fun v H1 ⟨w1, d, S1, l1, r1, hr1, q1⟩ => ?_
    split at q1
    · split at q1
      · rename_i hl
        obtain ⟨a, vs, rfl, i, rs⟩ := rep_tup r1
        exact ⟨a, vs, rfl, SqT.of (hr1.sqT i), by rw [rs.length]; exact hl, w1, ρ, S1, _, _, he.mono l1.ex, hr1, rs, q1⟩
      · exact q1.elim
    · exact q1.elim
  · cases h
theorem nd_ne {N : List Str} {i j : Nat} {x y : Str} (hN : N.Nodup) (h1 : N[i]? = some x) (h2 : N[j]? = some y) (h : i ≠ j) : x ≠ y := by
  rintro rfl
  obtain ⟨a, e1⟩ := List.getElem?_eq_some_iff.mp h1
  obtain ⟨b, e2⟩ := List.getElem?_eq_some_iff.mp h2
  rcases Nat.lt_or_gt_of_ne h with hlt | hlt
  · exact (List.pairwise_iff_getElem.mp hN) i j a b hlt (e1.trans e2.symm)
  · exact (List.pairwise_iff_getElem.mp hN) j i b a hlt (e2.trans e1.symm)
theorem ok_spar {is : List Nat} {ms : MEs} : OkS (.par is ms) := fun {X cl xa B b W k sc s} G h lv => by
  match is, h with
  | [i, j], h =>
    simp only [chkS] at h
    split at h
    · rename_i x px y py kt pt a b' k2 p2 pos
      simp only [Bool.and_eq_true, decide_eq_true_eq, bne_iff_ne] at h
      obtain ⟨⟨⟨⟨⟨h1, h2⟩, h3⟩, h4⟩, h5⟩, h6⟩ := h
      have h5' := h5
      simp only [parB, Bool.and_eq_true, decide_eq_true_eq, Bool.and_true] at h5'
      refine (ps_par G.calm G.nd h1 h2 h3 (by rw [G.hsc]; exact h5'.1.1) (by rw [G.hsc]; exact h5'.2.1) (okEs ms G.toGood h4 lv) (par_stores2 G.kind (by rw [G.hsc]; exact h5) h6 (nd_ne G.nd h1 h2 h3)) (by rfl)).imp' fun D σ H ⟨w, ρ, S, he, hr, q⟩ => ?_
      simp only [evS] at q
      refine (st_tEs he hr q).imp fun vs H1 ⟨w1, ds, S1, l1, rs, hr1, q1⟩ => ?_
      split at q1
      · rename_i ρ1 hb
        unfold bindP at hb
        simp only at hb
        split at hb
        · rename_i hl
          cases hb
          match ds, hl, rs, q1 with
          | [d, e], hl, rs, q1 =>
            obtain ⟨v, u, rfl, r1, r2⟩ := reps2 rs
            exact ⟨v, u, rfl, q1 w1 _ H1 (.refl _) (((he.mono l1.ex).set r1).set r2) hr1⟩
          | [], hl, _, _ => simp at hl
          | [_], hl, _, _ => simp at hl
          | _ :: _ :: _ :: _, hl, _, _ => simp at hl
        · cases hb
      · exact q1.elim
    · cases h
  | [i, j, l], h =>
    simp only [chkS] at h
    split at h
    · rename_i x px y py z pz kt pt a b' c k2 p2 pos
      simp only [Bool.and_eq_true, decide_eq_true_eq, bne_iff_ne] at h
      obtain ⟨⟨⟨⟨⟨⟨⟨⟨h1, h2⟩, h0⟩, h3⟩, h7⟩, h8⟩, h4⟩, h5⟩, h6⟩ := h
      have h5' := h5
      simp only [parB, Bool.and_eq_true, decide_eq_true_eq, Bool.and_true] at h5'
      refine (ps_par3 G.calm G.nd h1 h2 h0 h3 h7 h8 (by rw [G.hsc]; exact h5'.1.1) (by rw [G.hsc]; exact h5'.2.1.1) (by rw [G.hsc]; exact h5'.2.2.1) (okEs ms G.toGood h4 lv) (par_stores3 G.kind (by rw [G.hsc]; exact h5) h6 (nd_ne G.nd h1 h2 h3) (nd_ne G.nd h1 h0 h7) (nd_ne G.nd h2 h0 h8)) (by rfl)).imp' fun D σ H ⟨w, ρ, S, he, hr, q⟩ => ?_
      simp only [evS] at q
      refine (st_tEs he hr q).imp fun vs H1 ⟨w1, ds, S1, l1, rs, hr1, q1⟩ => ?_
      split at q1
      · rename_i ρ1 hb
        unfold bindP at hb
        simp only at hb
        split at hb
        · rename_i hl
          cases hb
          match ds, hl, rs, q1 with
          | [d, e, f], hl, rs, q1 =>
            simp only [Reps] at rs
            obtain ⟨v, _, rfl, r1, u, _, rfl, r2, t, _, rfl, r3, rfl⟩ := rs
            exact ⟨v, u, t, rfl, q1 w1 _ H1 (.refl _) ((((he.mono l1.ex).set r1).set r2).set r3) hr1⟩
          | [], hl, _, _ => simp at hl
          | [_], hl, _, _ => simp at hl
          | [_, _], hl, _, _ => simp at hl
          | _ :: _ :: _ :: _ :: _, hl, _, _ => simp at hl
        · cases hb
      · exact q1.elim
    · cases h
  | [], h => simp [chkS] at h
  | [_], h => simp [chkS] at h
  | _ :: _ :: _ :: _ :: _, h => simp [chkS] at h
theorem ok_sexpr {m : ME} : OkS (.expr m) := fun {X cl xa B b W k sc s} G h lv => by
  simp only [chkS] at h
  split at h
  · rename_i e pos
    rw [Bool.and_eq_true] at h
    refine (ps_expr (okE m G.toGood h.1 lv) (sw_no h.1 (by simpa using h.2) _ _ _)).imp' fun D σ H ⟨w, ρ, S, he, hr, q⟩ => ?_
    simp only [evS] at q
    exact (st_tE he hr q).imp fun v H1 ⟨w1, d, S1, l1, r1, hr1, q1⟩ => q1 w1 σ H1 (.refl _) (he.mono l1.ex) hr1
  · cases h
theorem ok_sret {m : ME} : OkS (.ret m) := fun {X cl xa B b W k sc s} G h lv => by
  simp only [chkS] at h
  split at h
  · refine (ps_ret (okE m G.toGood h lv)).imp' fun D σ H ⟨w, ρ, S, he, hr, q⟩ => ?_
    simp only [evS] at q
    exact (st_tE he hr q).imp fun v H1 ⟨w1, d, S1, l1, r1, hr1, q1⟩ => q1 w1 v H1 (.refl _) r1 hr1
  · cases h
theorem ok_sif {c : ME} {x y : MSs} (i1 : OkSs x) (i2 : OkSs y) : OkS (.ifs c x y) := fun {X cl xa B b W k sc s} G h lv => by
  simp only [chkS] at h
  split at h
  · simp only [Bool.and_eq_true] at h
    obtain ⟨⟨⟨h0, h1⟩, h2⟩, h3⟩ := h
    refine (ps_if (okT c G.toGood h1 h0 lv.1) (i1 G h2 lv.2.1) (i2 G h3 lv.2.2)).imp' fun D σ H ⟨w, ρ, S, he, hr, q⟩ => ?_
    simp only [evS] at q
    refine tT_imp (st_tT (kk := fun t S1 => if t then evSs b x ρ S1 else evSs b y ρ S1) he hr q) fun t H1 ⟨w1, S1, l1, hr1, q1⟩ => ?_
    cases t with
    | true => exact ⟨w1, ρ, S1, he.mono l1.ex, hr1, q1⟩
    | false => exact ⟨w1, ρ, S1, he.mono l1.ex, hr1, q1⟩
  · cases h
theorem ok_swhile {c : ME} {body : MSs} (i1 : OkSs body) : OkS (.whil c body) := fun {X cl xa B b W k sc s} G h lv => by
  simp only [chkS] at h
  split at h
  · simp only [Bool.and_eq_true] at h
    obtain ⟨⟨h0, h1⟩, h2⟩ := h
    refine (ps_while G.po (okT c G.toGood h1 h0 lv.1) (i1 G h2 lv.2)).imp' fun D σ H ⟨w, ρ, S, he, hr, q⟩ => ?_
    simp only [evS] at q
    refine ⟨fun m σ' H' => ∃ w' ρ' S', EnvR X.K w' ρ' σ' ∧ HR X.K cl B w' H' S' ∧ sR X.K cl B (whileL (fun ρ1 S1 => evE b c ρ1 S1) (fun ρ1 S1 => evSs b body ρ1 S1) m ρ' S') w' (xS xa W) D, ⟨fuel, w, ρ, S, he, hr, q⟩, fun m σ' H' ⟨w', ρ', S', he', hr', q'⟩ => ?_⟩
    cases m with
    | zero => exact q'.elim
    | succ m =>
      simp only [whileL] at q'
      refine tT_imp (st_tT (kk := fun t S1 => if t then (evSs b body ρ' S1).seq fun ρ1 S2 => whileL (fun ρ1 S1 => evE b c ρ1 S1) (fun ρ1 S1 => evSs b body ρ1 S1) m ρ1 S2 else .nx ρ' S1) he' hr' q') fun t H1 ⟨w1, S1, l1, hr1, q1⟩ => ?_
      cases t with
      | true =>
        refine ⟨_, fun σ2 H2 h2 => ⟨m, Nat.lt_succ_self m, h2⟩, w1, ρ', S1, he'.mono l1.ex, hr1, ?_⟩
        refine sR.seq (D' := { nx := _, rt := D.rt, bk := _, ct := _ }) q1 (fun w2 ρ2 S2 σ2 H2 l2 he2 hr2 q2 => ⟨w2, ρ2, S2, he2, hr2, q2⟩) (fun _ _ h => h)
      | false => exact q1 w1 σ' H1 (.refl _) (he'.mono l1.ex) hr1
  · cases h
theorem ok_sfor {p : Pat} {it : MI} {body : MSs} (i1 : OkSs body) : OkS (.for_ p it body) := fun {X cl xa B b W k sc s} G h lv => by
  simp only [chkS] at h
  split at h
  · rename_i t i x pos
    simp only [Bool.and_eq_true] at h
    obtain ⟨⟨h0, h1⟩, h2⟩ := h
    obtain ⟨pi, hf⟩ := okI it (tg := t) G.toGood h1 lv.1
    have pg := chkP_pg G.nd G.calm h0 G.locL (fun x _ => .inl (G.fnl x))
    refine (ps_for G.po G.calm pi pg (i1 G h2 lv.2) hf).imp' fun D σ H ⟨w, ρ, S, he, hr, q⟩ => ?_
    simp only [evS] at q
    refine tI_imp (st_tI he hr q) fun J H1 ⟨w1, q1, S1, l1, wk, hr1, q2⟩ => ?_
    obtain ⟨items, src⟩ := q1
    simp only at wk q2
    generalize hff : (fun d ρ1 S2 => match bindP p d ρ1 with
      | some ρ2 => evSs b body ρ2 S2
      | none => SRes.stuck) = ff at q2
    refine ⟨fun j n σ' H' => n = items.length - j ∧ j ≤ items.length ∧ ∃ w' ρ' S', w1.le w' ∧ EnvR X.K w' ρ' σ' ∧ HR X.K cl B w' H' S' ∧ sR X.K cl B (forL src ff (items.drop j) ρ' S') w' (xS xa W) D,
      ⟨items.length, by omega, Nat.zero_le _, w1, ρ, S1, .refl _, he.mono l1.ex, hr1, q2⟩, fun j n σ' H' ⟨hn, hj, w', ρ', S', l', he', hr', q'⟩ => ?_⟩
    rcases Nat.eq_or_lt_of_le hj with hje | hjl
    · left
      subst hje
      rw [List.drop_length] at q'
      unfold forL at q'
      split at q'
      · rename_i hst
        exact ⟨wk.stop _ H' S' l'.ex hr' hst, q' w' σ' H' (.refl _) he' hr'⟩
      · exact q'.elim
    · right
      have hd : items.drop j = items[j] :: items.drop (j + 1) := List.drop_eq_getElem_cons hjl
      rw [hd] at q'
      unfold forL at q'
      split at q'
      · rename_i hst
        refine ⟨wk.go j _ H' S' hjl l'.ex hr' hst, fun σ2 H2 => _, fun σ2 H2 h2 => ⟨items.length - (j + 1), by omega, h2⟩, fun v H2 hy => ?_⟩
        obtain ⟨w2, l2, rv, hr2⟩ := wk.yld j _ H' S' v H2 items[j] (List.getElem?_eq_getElem hjl) l'.ex hr' hst hy
        have q3 := q'.le l2
        rw [← hff] at q3
        simp only at q3
        split at q3
        · rename_i ρ2 hb
          refine gPat_ok hb (he'.mono l2.ex) rv hr2 fun σ3 he3 _ => ⟨w2, ρ2, S', he3, hr2, ?_⟩
          refine sR.seq (D' := { nx := _, rt := D.rt, bk := _, ct := _ }) q3 (fun w4 ρ4 S4 σ4 H4 l4 he4 hr4 q4 => ⟨rfl, by omega, w4, ρ4, S4, (l'.trans l2).trans l4, he4, hr4, ?_⟩) (fun _ _ h => h)
          rw [hff] at q4
          exact q4
        · exact q3.elim
      · exact q'.elim
  · cases h
theorem ok_srais {x : Str} {c : Nat} : OkS (.rais x c) := fun {X cl xa B b W k sc s} G h lv => by
  simp only [chkS] at h
  split at h
  · simp only [Bool.and_eq_true, decide_eq_true_eq] at h
    obtain ⟨rfl, h1⟩ := h
    have lv : ExAt X.K X.mg xa _ c := lv
    obtain ⟨B0, newId, initId, bmB, F, q0⟩ := lv.ex
    refine (ps_raise G.calm G.tk (pmk_own0 F q0 lv.gC lv.kC (raises_own lv.h1 lv.h2) (G.gl h1).1 (G.gl h1).2)).imp' fun D σ H ⟨w, ρ, S, he, hr, q⟩ => ?_
    exact q w σ H (.refl _) he hr
  · cases h
/-- the clauses: an exception of that class is answered -/
def hsL (xa : Nat → Addr) (hs : List (Str × Nat × Str)) : List (Value × (Addr → Value → Option Addr → TS)) := hs.map fun h => (.ref (xa h.2.1), fun _ _ _ => tRet (tC (.str h.2.2)))
theorem hs_ok (G : GoodS X cl xa B b W k sc) : ∀ {hs : List (Str × Nat × Str)} {r : List ExceptHandler}, chkHs sc hs r = true → (∀ h ∈ hs, ExAt X.K X.mg xa h.1 h.2.1) → HdsOk X r (hsL xa hs)
  | [], r, h, _ => by
    cases r with
    | nil => exact .nil
    | cons => simp [chkHs] at h
  | hd :: hs, r, h, lv => by
    cases r with
    | nil => simp [chkHs] at h
    | cons e r =>
      unfold chkHs at h
      split at h
      · rename_i h0; cases h0
      · rename_i hh _ _ _ heq1 heq2
        cases heq1
        cases heq2
        simp only [Bool.and_eq_true, decide_eq_true_eq] at h
        obtain ⟨⟨⟨rfl, h1⟩, rfl⟩, h3⟩ := h
        exact .cons ⟨(G.gl h1).1, (G.gl h1).2, .inl (lv hd List.mem_cons_self).gC⟩ (fun a oe cls d pn _ _ => pss_one (ps_ret pe_str)) (hs_ok G h3 fun h hm => lv h (List.mem_cons_of_mem _ hm))
      · cases h
theorem wMany_of {D : Ends} {c : Nat} : ∀ {hs : List (Str × Nat × Str)} {h : Str × Nat × Str}, (hs.find? fun h => h.2.1 == c) = some h → (∀ h ∈ hs, ExEq X.K xa c h.2.1) → D.rt (.str h.2.2) H → wMany X.K W D (hsL xa hs) (.ref (xa c)) none σ H
  | [], h, e, _, _ => by simp at e
  | h0 :: hs, h, e, he, q => by
    refine ⟨(c == h0.2.1), he h0 List.mem_cons_self, fun hb a _ => ?_, fun hb => ?_⟩
    · have : (h0.2.1 == c) = true := by simpa using (by simpa using hb : c = h0.2.1).symm
      rw [List.find?_cons_of_pos (by simpa using this)] at e
      cases e
      exact q
    · have : ¬ (h0.2.1 == c) = true := by
        intro h
        have h1 : h0.2.1 = c := by simpa using h
        rw [h1] at hb
        simp at hb
      rw [List.find?_cons_of_neg (by simpa using this)] at e
      exact wMany_of e (fun h hm => he h (List.mem_cons_of_mem _ hm)) q
theorem ok_stry {body : MSs} {hs : List (Str × Nat × Str)} (i1 : OkSs body) : OkS (.tryc body hs) := fun {X cl xa B b W k sc s} G h lv => by
  simp only [chkS] at h
  split at h
  · rename_i x h0 r pos
    rw [Bool.and_eq_true] at h
    have hd := hs_ok G h.2 lv.2.1
    refine (ps_try_many G.stk G.frm G.tk (tb := fun W' => tSs X.K cl xa B b W' body) (fun W' pn xe tk' po' => ?_) hd).imp' fun D σ H ⟨w, ρ, S, he, hr, q⟩ => ?_
    · exact i1 (X := X.tr pn xe) ⟨⟨G.nd, G.calm, G.hsc, tk', G.room, G.hB, G.bts⟩, po', G.stk, G.frm, G.kind, G.fnl⟩ h.1 lv.1
    · refine ⟨w, ρ, S, he, hr, ?_⟩
      simp only [evS] at q
      cases e : evSs b body ρ S with
      | nx ρ1 S1 => rw [e] at q; exact q
      | rt d S1 => rw [e] at q; exact q
      | stuck => rw [e] at q; exact q
      | exc c ρ1 S1 =>
        rw [e] at q
        simp only at q
        intro w' σ' H' l' he' hr'
        cases e2 : hs.find? fun h => h.2.1 == c with
        | none => rw [e2] at q; exact q.elim
        | some hh =>
          rw [e2] at q
          have hm := List.mem_of_find?_eq_some e2
          have hc : hh.2.1 = c := by simpa using List.find?_some e2
          refine wMany_of e2 (fun h' hm' => ?_) (q w' _ H' l' (by simp [Rep]) hr')
          rw [← hc]
          exact lv.2.2 hh hm h' hm'
  · cases h
theorem ok_snil : OkSs .nil := fun {X cl xa B b W k sc s} G h lv => by
  cases s with
  | nil => exact pss_nil.imp' fun D σ H ⟨w, ρ, S, he, hr, q⟩ => q w σ H (.refl _) he hr
  | cons => simp [chkSs] at h
theorem ok_scons {m : MS} {ms : MSs} (i1 : OkS m) (i2 : OkSs ms) : OkSs (.cons m ms) := fun {X cl xa B b W k sc s} G h lv => by
  cases s with
  | nil => simp [chkSs] at h
  | cons s r =>
    simp only [chkSs, Bool.and_eq_true] at h
    refine (pss_cons (i1 G h.1 lv.1) (i2 G h.2 lv.2)).imp' fun D σ H ⟨w, ρ, S, he, hr, q⟩ => ?_
    simp only [evSs] at q
    exact ⟨w, ρ, S, he, hr, q.seq (D' := { nx := _, rt := D.rt, bk := _, ct := _ }) (fun w2 ρ2 S2 σ2 H2 l2 he2 hr2 q2 => ⟨w2, ρ2, S2, he2, hr2, q2⟩) (fun _ _ h => h)⟩
theorem ok_sattr {a m : ME} {C : Nat} {f : Str} : OkS (.asg (.attr a C f) m) := fun {X cl xa B b W k sc s} G h lv => by simp [chkS] at h
end
mutual
theorem okS : ∀ m : MS, OkS m
  | .asg (.var i) m => ok_sasg
  | .asg (.sub a j) m => ok_sput
  | .asg (.attr a C f) m => ok_sattr
  | .asgT ts m => ok_stup
  | .par is es => ok_spar
  | .expr m => ok_sexpr
  | .ret m => ok_sret
  | .ifs c a b => ok_sif (okSs a) (okSs b)
  | .for_ p it body => ok_sfor (okSs body)
  | .whil c body => ok_swhile (okSs body)
  | .rais x c => ok_srais
  | .tryc body hs => ok_stry (okSs body)
theorem okSs : ∀ m : MSs, OkSs m
  | .nil => ok_snil
  | .cons s r => ok_scons (okS s) (okSs r)
end
end Mn

/-! Mini: SOUNDNESS of a def. -/
namespace Mn
open PySem PySem.Spec PyProof.Rows L2

theorem start_env {K : PySem.W.Frag} {w : Wd} {N : List Str} : ∀ {ds : List D} {vs : List V}, Reps K w ds vs → EnvR K w (ds.map some ++ List.replicate (N.length - ds.length) none) (L2.start N vs) := fun {ds vs} rs => by
  have hl := rs.length
  refine ⟨by simp [L2.start, hl], fun i d e => ?_⟩
  by_cases hi : i < ds.length
  · rw [List.getElem?_append_left (by simpa using hi), List.getElem?_map] at e
    cases hd : ds[i]? with
    | none => rw [hd] at e; cases e
    | some d' =>
      rw [hd] at e
      cases e
      obtain ⟨v, h1, h2⟩ := rs.get hd
      refine ⟨v, ?_, h2⟩
      unfold L2.start
      rw [List.getElem?_append_left (by simp [hl]; exact hi), List.getElem?_map, h1]
      rfl
  · rw [List.getElem?_append_right (by simpa using hi)] at e
    rw [List.getElem?_replicate] at e
    split at e <;> cases e
theorem fin_ok {keep : Bool} {d : D} {S S' : Store} {K : PySem.W.Frag} {cl : Nat → Addr} {B : List Nat} {w : Wd} {Xc : Nat → Hp → Prop} {Q : VK} (q : oR K cl B (Rep K) (fin keep d S S') w Xc Q) (hl : w.μ.length = S.length) (hB : ∀ c ∈ B, c ≤ S.length)
    {w' : Wd} {x : V} {H' : Hp} (le : w.le w') (r : Rep K w' d x) (hr : HR K cl (if keep then B else S.length :: B) w' H' S') : Q x H' := by
  unfold fin at q
  cases keep with
  | true => exact q w' x H' le r hr
  | false =>
    rw [if_neg (by decide)] at q hr
    split at q
    · rename_i hp
      obtain ⟨l2, h2⟩ := hr.leave hB le hl
      exact q _ x H' l2 (r.cut (D.under_pure hp)) h2
    · exact q.elim
/-- A DEF DOES WHAT ITS TERM DOES -/
theorem fn_okD {P : Program} {wo : World} {K : PySem.W.Frag} {mg : Str → Option Value} {base : Heap} {cl xa : Nat → Addr} {k : Nat} {x : Str} {st : Stmt} {f : Addr} {fd : FuncData} {ps N : List Str} {body : MSs} (keep : Bool)
    (F : L2.Fun K x x st f fd) (S : FnScope N ps (defScope st)) (bts : ∀ y ∈ bNames, mg y = none) (chk : chkSs N (defScope st) body (defBody st) = true)
    (lv : LvSs ⟨FnAt P wo K mg base cl xa k, ExAt K mg xa, ExEq K xa⟩ body) : FnOk P wo K mg base (L2.CX P wo) (k + 1) f fd ps (spF K cl xa (run keep ps.length N.length body) ps.length) := by
  refine F.okX S (fun vs H Q E h => h.1) fun cdv A outer s H vs Q E room ⟨hl, B, b, w, S0, ds, hB, hr, rs, q⟩ => ?_
  have hBS : ∀ c ∈ B, c ≤ S0.length := fun c hc => (hr.sco c hc).1
  have hr' : HR K cl (if keep then B else S0.length :: B) w H S0 := by
    cases keep with
    | true => exact hr
    | false => exact hr.enter
  refine ⟨tSs K cl xa (if keep then B else S0.length :: B) (if keep then b else S0.length) (fun cls d _ H => E cls d H) body, okSs body ⟨⟨S.nd, rfl, rfl, takes_of rfl rfl rfl rfl, room, fun c hc => ?_, bts⟩, passes_of rfl, rfl, rfl, S.kind, fun _ => rfl⟩ chk lv, ?_⟩
  · cases keep with
    | true => exact hB c hc
    | false =>
      rcases List.mem_cons.mp hc with e | e
      · rw [e]; exact Nat.le_refl _
      · exact hBS c e
  · refine ⟨w, _, S0, start_env rs, hr', ?_⟩
    unfold run at q
    rw [if_pos (by rw [← rs.length]; exact hl)] at q
    have e0 : ps.length = ds.length := by rw [← rs.length]; exact hl.symm
    rw [e0] at q
    cases e : evSs (if keep then b else S0.length) body (ds.map some ++ List.replicate (N.length - ds.length) none) S0 with
    | nx ρ1 S1 =>
      rw [e] at q
      exact fun w' σ H' l he hh => fin_ok q hr.len hBS l (by simp [Rep]) hh
    | rt d S1 =>
      rw [e] at q
      exact fun w' y H' l r hh => fin_ok q hr.len hBS l r hh
    | exc c ρ1 S1 =>
      rw [e] at q
      intro w' σ H' l he hh
      cases keep with
      | true => exact q w' H' l hh
      | false =>
        obtain ⟨l2, h2⟩ := hh.leave hBS l hr.len
        exact q _ H' l2 h2
    | stuck => rw [e] at q; exact q.elim
theorem fn_at {P : Program} {wo : World} {K : PySem.W.Frag} {mg : Str → Option Value} {base : Heap} {cl xa : Nat → Addr} {k : Nat} {x : Str} {st : Stmt} {f : Addr} {fd : FuncData} {ps N : List Str} {body : MSs} (keep : Bool)
    (F : L2.Fun K x x st f fd) (S : FnScope N ps (defScope st)) (hb : Binds K fd ps []) (hm : mg x = some (.ref f)) (bts : ∀ y ∈ bNames, mg y = none) (chk : chkSs N (defScope st) body (defBody st) = true)
    (lv : LvSs ⟨FnAt P wo K mg base cl xa k, ExAt K mg xa, ExEq K xa⟩ body) : FnAt P wo K mg base cl xa (k + 1) x (run keep ps.length N.length body) :=
  ⟨f, fd, ps, fn_okD keep F S bts chk lv, hm, F.kp, hb, fun b ds S hl => by unfold run; rw [if_neg hl]⟩
theorem FnAt.mono {P : Program} {wo : World} {K : PySem.W.Frag} {mg : Str → Option Value} {base : Heap} {cl xa : Nat → Addr} {k k' : Nat} {x : Str} {den : FnSem} (h : FnAt P wo K mg base cl xa k x den) (hk : k ≤ k') : FnAt P wo K mg base cl xa k' x den := by
  obtain ⟨f, fd, ps, F, h1, h2, h3, h4⟩ := h.ex
  exact ⟨f, fd, ps, ⟨F.len, fun A outer s H args us vs Q E r => F.run A outer s H args us vs Q E ⟨r.hd, by have := r.dp; omega, by have := r.un; omega⟩⟩, h1, h2, h3, h4⟩
end Mn

/-! Mini: a module's defs, the law's end. -/
namespace Mn
open PySem PySem.Spec PyProof.Rows L2

/-! ### a def's check -/
def nodupB : List Str → Bool
  | [] => true
  | x :: r => !r.contains x && nodupB r
theorem nodupB_is : ∀ {l : List Str}, nodupB l = true → l.Nodup
  | [], _ => List.nodup_nil
  | x :: r, h => by
    simp only [nodupB, Bool.and_eq_true, Bool.not_eq_true', List.contains_eq_mem, decide_eq_false_iff_not] at h
    exact List.nodup_cons.mpr ⟨h.1, nodupB_is h.2⟩
def scC (N ps : List Str) (sc : Scope) : Bool :=
  (match sc.kind with | .function => true | _ => false) && !sc.isCoroutine && !sc.isGenerator && nodupB N && decide (N.take ps.length = ps) && ps.all (locB sc) && sc.names.all fun y => match y.2 with | .free => false | _ => true
theorem scC_is {N ps : List Str} {sc : Scope} (h : scC N ps sc = true) : FnScope N ps sc := by
  simp only [scC, Bool.and_eq_true, Bool.not_eq_true', decide_eq_true_eq, List.all_eq_true] at h
  obtain ⟨⟨⟨⟨⟨⟨h1, h2⟩, h3⟩, h4⟩, h5⟩, h6⟩, h7⟩ := h
  refine ⟨?_, h2, h3, nodupB_is h4, h5, fun x hx => loc_of (h6 x hx), fun y hy e => ?_⟩
  · split at h1
    · assumption
    · cases h1
  · have := h7 y hy
    rw [e] at this
    cases this
def defCk (N ps : List Str) (st : Stmt) (body : MSs) : Bool := chkSs N (defScope st) body (defBody st) && scC N ps (defScope st)
/-- where a def stands -/
structure DefAt (K : PySem.W.Frag) (mg : Str → Option Value) (x : Str) (st : Stmt) (ps : List Str) : Prop where
  ex : ∃ f fd, L2.Fun K x x st f fd ∧ Binds K fd ps [] ∧ mg x = some (.ref f) ∧ ∀ (s : Shared) (us : List Value), us.length = ps.length → BindsTo s fd ⟨us, []⟩ (ps.zip us)
section
variable {P : Program} {wo : World} {K : PySem.W.Frag} {mg : Str → Option Value} {base : Heap} {cl xa : Nat → Addr} {k : Nat} {x : Str} {st : Stmt} {ps N : List Str} {body : MSs}
theorem fn_def (keep : Bool) (n m : Nat) (D : DefAt K mg x st ps) (ck : defCk N ps st body = true) (hn : ps.length = n) (hm : N.length = m) (bts : ∀ y ∈ bNames, mg y = none) (lv : LvSs ⟨FnAt P wo K mg base cl xa k, ExAt K mg xa, ExEq K xa⟩ body) :
    FnAt P wo K mg base cl xa (k + 1) x (run keep n m body) := by
  subst hn hm
  obtain ⟨f, fd, F, hb, hm, _⟩ := D.ex
  rw [defCk, Bool.and_eq_true] at ck
  exact fn_at keep F (scC_is ck.2) hb hm bts ck.1 lv
theorem fn_stuck (D : DefAt K mg x st ps) : FnAt P wo K mg base cl xa k x (fun _ _ _ => .stuck) := by
  obtain ⟨f, fd, F, hb, hm, _⟩ := D.ex
  exact ⟨f, fd, ps, ⟨fun vs H Q E h => h.1, fun A outer s H args us vs Q E _ _ _ _ ⟨_, B, b, w, S, ds, _, _, _, q⟩ => q.elim⟩, hm, F.kp, hb, fun _ _ _ _ => rfl⟩
theorem def_at {h : Heap} {f : Addr} {oc : Value} {od an : Option Addr} {osl : Array (Option Value)} {kV doc pm cdv ct : Value} (X : K.In h) (G : h.Ns mainGlobals mg) (a : PySem.W.nsIn K mainGlobals x = some (some (.ref f)))
    (l : K.lookup f = some ⟨oc, od, .func (PySem.W.fnOf x x (defArgs st) (defBody st) (defScope st) .none kV doc pm an cdv ct), osl⟩) (c : PySem.W.codeIn K cdv x = true) (kp : PySem.W.keepIn K (.ref f) = true)
    (hb : ∀ (kV doc pm : Value) (an : Option Addr) (cdv ct : Value) (us : List Value), us.length = ps.length → bindArgs (PySem.W.fnOf x x (defArgs st) (defBody st) (defScope st) .none kV doc pm an cdv ct) ⟨us, []⟩ = pure (ps.zip us)) : DefAt K mg x st ps :=
  ⟨f, _, fun_mk l c kp, (fun_mk l c kp).binds hb, PySem.W.mg_of X G a, fun s us hl => .of_eq (hb _ _ _ _ _ _ us hl)⟩

theorem all_nil {α : Type} {p : α → Prop} : ∀ y ∈ ([] : List α), p y := fun _ h => by simp at h
theorem all_cons {α : Type} {p : α → Prop} {x : α} {l : List α} (h : p x) (t : ∀ y ∈ l, p y) : ∀ y ∈ x :: l, p y := fun y hy => by
  rcases List.mem_cons.mp hy with e | e
  · rw [e]; exact h
  · exact t y e
theorem bts_of {h : Heap} (X : K.In h) (G : h.Ns mainGlobals mg) (z : ∀ y ∈ bNames, PySem.W.nsIn K mainGlobals y = some none) : ∀ y ∈ bNames, mg y = none := fun y hy => PySem.W.mg_none_of X G (z y hy)
theorem tryE {L : Lk} {exN : List Str} {hs : List (Str × Nat × Str)} (hE : ∀ x c, exN[c]? = some x → L.E x c) (h : (hs.all fun h => decide (exN[h.2.1]? = some h.1)) = true) : ∀ h ∈ hs, L.E h.1 h.2.1 := fun q hq => by
  rw [List.all_eq_true] at h
  exact hE _ _ (of_decide_eq_true (h q hq))
theorem tryQ {L : Lk} {n : Nat} {hs : List (Str × Nat × Str)} (hQ : ∀ c c', c < n → c' < n → L.Q c c') (h : (hs.all fun h => decide (h.2.1 < n)) = true) : ∀ h ∈ hs, ∀ h' ∈ hs, L.Q h.2.1 h'.2.1 := fun q hq q' hq' => by
  rw [List.all_eq_true] at h
  exact hQ _ _ (of_decide_eq_true (h q hq)) (of_decide_eq_true (h q' hq'))

/-! ### own exceptions -/
def ExL (K : PySem.W.Frag) (mg : Str → Option Value) (xa : Nat → Addr) : Nat → List Str → Prop
  | _, [] => True
  | c, x :: r => ExAt K mg xa x c ∧ ExL K mg xa (c + 1) r
theorem exL_get : ∀ {l : List Str} {c : Nat}, ExL K mg xa c l → ∀ x i, l[i]? = some x → ExAt K mg xa x (c + i)
  | [], _, _, _, _, h => by simp at h
  | y :: r, c, h, x, 0, e => by
    cases e
    exact h.1
  | y :: r, c, h, x, i + 1, e => by
    have := exL_get h.2 x i e
    rwa [show c + 1 + i = c + (i + 1) by omega] at this
theorem ex_at {h : Heap} {c : Nat} {B newId initId : String} {bmB : List Value} (X : K.In h) (G : h.Ns mainGlobals mg) (F : ExcBaseFacts B newId initId bmB) (a : PySem.W.nsIn K mainGlobals x = some (some (.ref (xa c)))) (q : PySem.W.excIn K (xa c) bmB newId = true)
    (k : PySem.W.keepIn K (.ref (xa c)) = true) (s : PySem.W.subIn K (.ref (xa c)) (.type "BaseException") = some true) (t : PySem.W.typeIn K (.ref (xa c)) = some (.type "type")) : ExAt K mg xa x c :=
  ⟨PySem.W.mg_of X G a, k, ⟨B, newId, initId, bmB, F, q⟩, s, t⟩
def exEqB (K : PySem.W.Frag) (xa : Nat → Addr) (n : Nat) : Bool := (List.range n).all fun i => (List.range n).all fun j => decide (PySem.W.exmOne K (.ref (xa i)) (.ref (xa j)) = some (i == j))
theorem exEq_of {n : Nat} (h : exEqB K xa n = true) : ∀ c c', c < n → c' < n → ExEq K xa c c' := fun c c' h1 h2 => by
  unfold exEqB at h
  rw [List.all_eq_true] at h
  have := h c (List.mem_range.mpr h1)
  rw [List.all_eq_true] at this
  exact of_decide_eq_true (p := PySem.W.exmOne K (.ref (xa c)) (.ref (xa c')) = some (c == c')) (this c' (List.mem_range.mpr h2))

/-! ### the law's end -/
def scriptD (ns : List Int) : D := .scr (ns.map D.int)
theorem reps_int {w : Wd} : ∀ {ns : List Int}, Reps K w (ns.map D.int) (ns.map V.int)
  | [] => .nil
  | n :: ns => .cons (by simp [Rep]) (reps_int)
theorem law_sp {den : FnSem} {H : Hp} {a : Addr} {ns : List Int} (hO : Only H) (hS : SqL K H a (ns.map V.int)) (h : ∃ S', den 0 [scriptD ns] [] = .ok (.bl true) S') : spF K cl xa den 1 [.ref a] H (fun v _ => v = .bl true) fun _ _ _ => False := by
  obtain ⟨S', e⟩ := h
  refine ⟨rfl, [], 0, ?_⟩
  have fin : ∀ {w : Wd}, HR K cl [] w H [] → Rep K w (scriptD ns) (.ref a) → ∃ w S ds, (∀ c ∈ ([] : List Nat), c ≤ 0) ∧ HR K cl [] w H S ∧ Reps K w ds [V.ref a] ∧ oR K cl [] (Rep K) (den 0 ds S) w (fun c H' => False) (fun v _ => v = .bl true) := fun {w} hr r =>
    ⟨w, [], [scriptD ns], fun _ h => by simp at h, hr, .one r, by rw [e]; exact fun w' x H' _ rx _ => rep_bl rx⟩
  have emp : ∀ (I : Addr → Option (Kd × List V)), (∀ b c vs, I b = some (c, vs) → KdOk H b vs c) → HR K cl [] ⟨I, [], fun _ => none⟩ H [] := fun I hI =>
    ⟨hI, rfl, List.nodup_nil, fun n a c e => by simp at e, fun b hb => by simp at hb, fun a o e => by cases e⟩
  rcases hS with (hS | ⟨o, hS⟩) | hS
  · exfalso
    rcases hO a with h | ⟨o, xs, h⟩
    · rw [h] at hS; cases hS
    · rw [h] at hS; cases hS
  · refine fin (emp (fun b => if b = a then some (.f, ns.map V.int) else none) fun b c vs e => ?_) ?_
    · by_cases hb : b = a
      · rw [if_pos hb] at e
        cases e
        subst hb
        exact ⟨o, hS⟩
      · rw [if_neg hb] at e; cases e
    · simp only [scriptD, Rep]
      exact ⟨a, _, rfl, .inl (if_pos rfl), reps_int⟩
  · refine fin (emp (fun _ => none) fun b c vs e => by cases e) ?_
    simp only [scriptD, Rep]
    exact ⟨a, _, rfl, .inr hS, reps_int⟩
/-- the law's def, at its name -/
theorem law_fn {xs : Str} {fa : Addr} (m : Nat) (D : DefAt K mg x st [xs]) (ck : defCk N [xs] st body = true) (hm : N.length = m) (hx : mg x = some (.ref fa)) (bts : ∀ y ∈ bNames, mg y = none)
    (lv : ∀ base : Heap, K.In base → base.Ns mainGlobals mg → LvSs ⟨FnAt P wo K mg base cl xa k, ExAt K mg xa, ExEq K xa⟩ body) :
    ∃ fd : FuncData, (∀ (s : Shared) (u : Value), BindsTo s fd ⟨[u], []⟩ [(xs, u)]) ∧ ∀ base : Heap, K.In base → base.Ns mainGlobals mg → FnOk P wo K mg base (L2.CX P wo) (k + 1) fa fd [xs] (spF K cl xa (run false 1 m body) 1) := by
  subst hm
  obtain ⟨f, fd, F, hb, hm, bt⟩ := D.ex
  rw [hx] at hm
  cases hm
  rw [defCk, Bool.and_eq_true] at ck
  exact ⟨fd, fun s u => bt s [u] rfl, fun base h1 h2 => fn_okD false F (scC_is ck.2) bts ck.1 (lv base h1 h2)⟩
end
end Mn

/-! Mini: own exceptions, numbered alike in all laws. -/
namespace Mn
open PySem PySem.Spec PyProof.Rows L2
section
variable {K : PySem.W.Frag} {mg : Str → Option Value} {xa : Nat → Addr}
theorem tryE' {L : Lk} {l : List (Nat × Str)} {hs : List (Str × Nat × Str)} (hE : ∀ x c, l.lookup c = some x → L.E x c) (h : (hs.all fun h => decide (l.lookup h.2.1 = some h.1)) = true) : ∀ h ∈ hs, L.E h.1 h.2.1 := fun q hq => by
  rw [List.all_eq_true] at h
  exact hE _ _ (of_decide_eq_true (h q hq))
theorem tryQ' {L : Lk} {l : List (Nat × Str)} {hs : List (Str × Nat × Str)} (hQ : ∀ c c', (l.lookup c).isSome = true → (l.lookup c').isSome = true → L.Q c c') (h : (hs.all fun h => (l.lookup h.2.1).isSome) = true) : ∀ h ∈ hs, ∀ h' ∈ hs, L.Q h.2.1 h'.2.1 := fun q hq q' hq' => by
  rw [List.all_eq_true] at h
  exact hQ _ _ (h q hq) (h q' hq')
def ExM (K : PySem.W.Frag) (mg : Str → Option Value) (xa : Nat → Addr) : List (Nat × Str) → Prop
  | [] => True
  | p :: r => ExAt K mg xa p.2 p.1 ∧ ExM K mg xa r
theorem exM_get : ∀ {l : List (Nat × Str)}, ExM K mg xa l → ∀ x c, l.lookup c = some x → ExAt K mg xa x c
  | [], _, _, _, h => by simp at h
  | (i, y) :: r, h, x, c, e => by
    simp only [List.lookup] at e
    by_cases hc : c = i
    · subst hc
      simp only [beq_self_eq_true] at e
      cases e
      exact h.1
    · rw [show (c == i) = false by simpa using hc] at e
      exact exM_get h.2 x c e
def exEqM (K : PySem.W.Frag) (xa : Nat → Addr) (l : List (Nat × Str)) : Bool := l.all fun i => l.all fun j => decide (PySem.W.exmOne K (.ref (xa i.1)) (.ref (xa j.1)) = some (i.1 == j.1))
theorem lookup_mem : ∀ {l : List (Nat × Str)} {c : Nat}, (l.lookup c).isSome = true → ∃ p ∈ l, p.1 = c
  | [], _, h => by simp at h
  | (i, y) :: r, c, h => by
    simp only [List.lookup] at h
    by_cases hc : c = i
    · exact ⟨(i, y), List.mem_cons_self, hc.symm⟩
    · rw [show (c == i) = false by simpa using hc] at h
      obtain ⟨p, hp, e⟩ := lookup_mem h
      exact ⟨p, List.mem_cons_of_mem _ hp, e⟩
theorem exEqM_of {l : List (Nat × Str)} (h : exEqM K xa l = true) : ∀ c c', (l.lookup c).isSome = true → (l.lookup c').isSome = true → ExEq K xa c c' := fun c c' h1 h2 => by
  obtain ⟨p, hp, rfl⟩ := lookup_mem h1
  obtain ⟨q, hq, rfl⟩ := lookup_mem h2
  unfold exEqM at h
  rw [List.all_eq_true] at h
  have := h p hp
  rw [List.all_eq_true] at this
  exact of_decide_eq_true (p := PySem.W.exmOne K (.ref (xa p.1)) (.ref (xa q.1)) = some (p.1 == q.1)) (this q hq)
end
end Mn

namespace Lb
open PySem Mn L2
def b_common_divisor : MSs := (.cons (.whil (.var 1) (.cons (.par [0, 1] (.cons (.var 1) (.cons (.bin false .mod (.var 0) (.var 1)) .nil)))
  .nil))
  (.cons (.ret (.var 0))
  .nil))
def d_common_divisor : FnSem := run false 2 2 b_common_divisor
def b_lowest_terms : MSs := (.cons (.ifs (.cmp .lt (.var 1) (.cst (.int 0))) (.cons (.par [0, 1] (.cons (.neg (.var 0)) (.cons (.neg (.var 1)) .nil)))
  .nil) .nil)
  (.cons (.asg (.var 2) (.call "common_divisor" d_common_divisor (.cons (.bi false .abs (.cons (.var 0) .nil)) (.cons (.var 1) .nil))))
  (.cons (.ret (.tup (.cons (.bin false .fdiv (.var 0) (.var 2)) (.cons (.bin false .fdiv (.var 1) (.var 2)) .nil))))
  .nil)))
def d_lowest_terms : FnSem := run false 2 3 b_lowest_terms
def b_is_fraction : MSs := (.cons (.ifs (.or_ (.cons (.not_ (.isi (.var 0) .tuple)) (.cons (.cmp .ne (.bi false .len (.cons (.var 0) .nil)) (.cst (.int 2))) .nil))) (.cons (.ret (.cst (.bl false)))
  .nil) .nil)
  (.cons (.ifs (.or_ (.cons (.not_ (.bi false .all (.cons (.lc false [1] (.and_ (.cons (.isi (.var 1) .int) (.cons (.not_ (.isi (.var 1) .bool)) .nil))) (.one 1) (.exp (.var 0)) .none) .nil))) (.cons (.cmp .lt (.ix (.var 0) (.cst (.int 1))) (.cst (.int 1))) .nil))) (.cons (.ret (.cst (.bl false)))
  .nil) .nil)
  (.cons (.ret (.cmp .eq (.call "common_divisor" d_common_divisor (.cons (.bi false .abs (.cons (.ix (.var 0) (.cst (.int 0))) .nil)) (.cons (.ix (.var 0) (.cst (.int 1))) .nil))) (.cst (.int 1))))
  .nil)))
def d_is_fraction : FnSem := run false 1 2 b_is_fraction
def b_plus : MSs := (.cons (.ret (.call "lowest_terms" d_lowest_terms (.cons (.bin false .add (.bin false .mul (.ix (.var 0) (.cst (.int 0))) (.ix (.var 1) (.cst (.int 1)))) (.bin false .mul (.ix (.var 1) (.cst (.int 0))) (.ix (.var 0) (.cst (.int 1))))) (.cons (.bin false .mul (.ix (.var 0) (.cst (.int 1))) (.ix (.var 1) (.cst (.int 1)))) .nil))))
  .nil)
def d_plus : FnSem := run false 2 2 b_plus
def b_total_of : MSs := (.cons (.asg (.var 1) (.tup (.cons (.cst (.int 0)) (.cons (.cst (.int 1)) .nil))))
  (.cons (.for_ (.one 2) (.exp (.var 0)) (.cons (.asg (.var 1) (.call "plus" d_plus (.cons (.var 1) (.cons (.var 2) .nil))))
  .nil))
  (.cons (.ret (.var 1))
  .nil)))
def d_total_of : FnSem := run false 1 3 b_total_of
def b_are_chances : MSs := (.cons (.ifs (.or_ (.cons (.not_ (.isi (.var 0) .tuple)) (.cons (.not_ (.chain .le .le (.var 1) (.bi false .len (.cons (.var 0) .nil)) (.var 2))) .nil))) (.cons (.ret (.cst (.bl false)))
  .nil) .nil)
  (.cons (.ifs (.not_ (.bi false .all (.cons (.lc false [3] (.and_ (.cons (.call "is_fraction" d_is_fraction (.cons (.var 3) .nil)) (.cons (.cmp .ge (.ix (.var 3) (.cst (.int 0))) (.cst (.int 0))) .nil))) (.one 3) (.exp (.var 0)) .none) .nil))) (.cons (.ret (.cst (.bl false)))
  .nil) .nil)
  (.cons (.ret (.cmp .eq (.call "total_of" d_total_of (.cons (.var 0) .nil)) (.tup (.cons (.cst (.int 1)) (.cons (.cst (.int 1)) .nil)))))
  .nil)))
def d_are_chances : FnSem := run false 3 4 b_are_chances
def b_is_model : MSs := (.cons (.ifs (.or_ (.cons (.not_ (.isi (.var 0) .tuple)) (.cons (.not_ (.chain .le .le (.cst (.int 2)) (.bi false .len (.cons (.var 0) .nil)) (.cst (.int 3)))) .nil))) (.cons (.ret (.cst (.bl false)))
  .nil) .nil)
  (.cons (.ifs (.not_ (.bi false .all (.cons (.lc false [2] (.call "are_chances" d_are_chances (.cons (.var 2) (.cons (.cst (.int 1)) (.cons (.cst (.int 6)) .nil)))) (.one 2) (.exp (.var 0)) .none) .nil))) (.cons (.ret (.cst (.bl false)))
  .nil) .nil)
  (.cons (.ifs (.not_ (.bi false .all (.cons (.lc false [2] (.cmp .eq (.bi false .len (.cons (.var 2) .nil)) (.bi false .len (.cons (.ix (.var 0) (.cst (.int 0))) .nil))) (.one 2) (.exp (.var 0)) .none) .nil))) (.cons (.ret (.cst (.bl false)))
  .nil) .nil)
  (.cons (.ret (.bi false .all (.cons (.lc false [1] (.bi false .any (.cons (.lc false [2] (.cmp .gt (.ix (.ix (.var 2) (.var 1)) (.cst (.int 0))) (.cst (.int 0))) (.one 2) (.exp (.var 0)) .none) .nil)) (.one 1) (.rng1 (.bi false .len (.cons (.ix (.var 0) (.cst (.int 0))) .nil))) .none) .nil)))
  .nil))))
def d_is_model : FnSem := run false 1 3 b_is_model
def b__law_draw : MSs := (.cons (.ifs (.not_ (.var 1)) (.cons (.expr (.bm false .append (.var 1) (.cons (.bi false .max (.cons (.bin false .add (.lc false [4] (.bi false .abs (.cons (.var 4) .nil)) (.one 4) (.exp (.var 0)) .none) (.lst false (.cons (.cst (.int 0)) .nil))) .nil)) .nil)))
  .nil) .nil)
  (.cons (.expr (.bm false .append (.var 1) (.cons (.cst (.int 0)) .nil)))
  (.cons (.asg (.var 3) (.bi false .len (.cons (.var 1) .nil)))
  (.cons (.asg (.var 4) (.ite (.var 0) (.ix (.var 0) (.bin false .mod (.var 3) (.bi false .len (.cons (.var 0) .nil)))) (.cst (.int 0))))
  (.cons (.asg (.var 5) (.bin false .mod (.ix (.var 1) (.cst (.int 0))) (.cst (.int 65536))))
  (.cons (.asg (.sub (.var 1) (.cst (.int 0))) (.bin false .fdiv (.ix (.var 1) (.cst (.int 0))) (.cst (.int 65536))))
  (.cons (.asg (.var 6) (.bin false .mod (.bin false .add (.bin false .add (.var 4) (.bin false .mul (.cst (.int 40503)) (.var 5))) (.bin false .mul (.cst (.int 104729)) (.var 3))) (.cst (.int 4294967291))))
  (.cons (.asg (.var 6) (.bin false .mod (.bin false .mul (.bin false .mod (.bin false .mul (.var 6) (.var 6)) (.cst (.int 4294967279))) (.cst (.int 48271))) (.cst (.int 4294967291))))
  (.cons (.asg (.var 7) (.bin false .mod (.bin false .mul (.bin false .mod (.bin false .mul (.var 6) (.var 6)) (.cst (.int 4294967279))) (.cst (.int 69621))) (.cst (.int 4294967291))))
  (.cons (.ret (.bin false .mod (.bin false .add (.bin false .mul (.bin false .fdiv (.var 6) (.cst (.int 64))) (.cst (.int 67108864))) (.bin false .fdiv (.var 7) (.cst (.int 64)))) (.var 2)))
  .nil))))))))))
def d__law_draw : FnSem := run false 3 8 b__law_draw
def b__law_fraction : MSs := (.cons (.par [3, 4] (.cons (.bi false .abs (.cons (.var 0) .nil)) (.cons (.bi false .abs (.cons (.var 1) .nil)) .nil)))
  (.cons (.whil (.var 4) (.cons (.par [3, 4] (.cons (.var 4) (.cons (.bin false .mod (.var 3) (.var 4)) .nil)))
  .nil))
  (.cons (.asg (.var 2) (.ite (.cmp .gt (.var 1) (.cst (.int 0))) (.cst (.int 1)) (.neg (.cst (.int 1)))))
  (.cons (.ret (.tup (.cons (.bin false .fdiv (.bin false .mul (.var 2) (.var 0)) (.var 3)) (.cons (.bin false .fdiv (.bi false .abs (.cons (.var 1) .nil)) (.var 3)) .nil))))
  .nil))))
def d__law_fraction : FnSem := run false 2 5 b__law_fraction
def b__law_plus : MSs := (.cons (.ret (.call "_law_fraction" d__law_fraction (.cons (.bin false .add (.bin false .mul (.ix (.var 0) (.cst (.int 0))) (.ix (.var 1) (.cst (.int 1)))) (.bin false .mul (.ix (.var 1) (.cst (.int 0))) (.ix (.var 0) (.cst (.int 1))))) (.cons (.bin false .mul (.ix (.var 0) (.cst (.int 1))) (.ix (.var 1) (.cst (.int 1)))) .nil))))
  .nil)
def d__law_plus : FnSem := run false 2 2 b__law_plus
def b__law_total : MSs := (.cons (.asg (.var 1) (.tup (.cons (.cst (.int 0)) (.cons (.cst (.int 1)) .nil))))
  (.cons (.for_ (.one 2) (.exp (.var 0)) (.cons (.asg (.var 1) (.call "_law_plus" d__law_plus (.cons (.var 1) (.cons (.var 2) .nil))))
  .nil))
  (.cons (.ret (.var 1))
  .nil)))
def d__law_total : FnSem := run false 1 3 b__law_total
def b__law_spread : MSs := (.cons (.ret (.bi false .tuple (.cons (.lc false [1] (.call "_law_fraction" d__law_fraction (.cons (.var 1) (.cons (.bi false .sum (.cons (.var 0) .nil)) .nil))) (.one 1) (.exp (.var 0)) .none) .nil)))
  .nil)
def d__law_spread : FnSem := run false 1 2 b__law_spread
def b__law_model : MSs := (.cons (.par [6, 7] (.cons (.bin false .add (.cst (.int 1)) (.call "_law_draw" d__law_draw (.cons (.var 0) (.cons (.var 1) (.cons (.var 2) .nil))))) (.cons (.bin false .add (.cst (.int 2)) (.call "_law_draw" d__law_draw (.cons (.var 0) (.cons (.var 1) (.cons (.cst (.int 2)) .nil))))) .nil)))
  (.cons (.asg (.var 3) (.lst true .nil))
  (.cons (.for_ (.one 4) (.rng1 (.var 7)) (.cons (.expr (.bm false .append (.var 3) (.cons (.lc true [5] (.call "_law_draw" d__law_draw (.cons (.var 0) (.cons (.var 1) (.cons (.cst (.int 4)) .nil)))) (.one 5) (.rng1 (.var 6)) .none) .nil)))
  .nil))
  (.cons (.for_ (.one 4) (.rng1 (.var 7)) (.cons (.ifs (.cmp .eq (.bi false .sum (.cons (.ix (.var 3) (.var 4)) .nil)) (.cst (.int 0))) (.cons (.asg (.sub (.ix (.var 3) (.var 4)) (.cst (.int 0))) (.cst (.int 1)))
  .nil) .nil)
  .nil))
  (.cons (.for_ (.one 5) (.rng1 (.var 6)) (.cons (.ifs (.cmp .eq (.lc false [8] (.var 8) (.one 8) (.exp (.var 3)) (.some (.cmp .gt (.ix (.var 8) (.var 5)) (.cst (.int 0))))) (.lst false .nil)) (.cons (.asg (.sub (.ix (.var 3) (.cst (.int 0))) (.var 5)) (.cst (.int 2)))
  .nil) .nil)
  .nil))
  (.cons (.ret (.bi false .tuple (.cons (.lc false [8] (.call "_law_spread" d__law_spread (.cons (.var 8) .nil)) (.one 8) (.exp (.var 3)) .none) .nil)))
  .nil))))))
def d__law_model : FnSem := run false 3 9 b__law_model
def b_is_integer : MSs := (.cons (.ret (.and_ (.cons (.isi (.var 0) .int) (.cons (.not_ (.isi (.var 0) .bool)) (.cons (.chain .le .le (.var 1) (.var 0) (.var 2)) .nil)))))
  .nil)
def d_is_integer : FnSem := run false 3 3 b_is_integer
def b_require_model : MSs := (.cons (.ifs (.not_ (.call "is_model" d_is_model (.cons (.var 0) .nil))) (.cons (.rais "InvalidModel" 1)
  .nil) .nil)
  .nil)
def d_require_model : FnSem := run false 1 1 b_require_model
def b_are_valid_losses : MSs := (.cons (.ifs (.or_ (.cons (.not_ (.isi (.var 1) .tuple)) (.cons (.not_ (.chain .le .le (.cst (.int 1)) (.bi false .len (.cons (.var 1) .nil)) (.cst (.int 3)))) .nil))) (.cons (.ret (.cst (.bl false)))
  .nil) .nil)
  (.cons (.for_ (.one 2) (.exp (.var 1)) (.cons (.ifs (.or_ (.cons (.not_ (.isi (.var 2) .tuple)) (.cons (.cmp .ne (.bi false .len (.cons (.var 2) .nil)) (.bi false .len (.cons (.var 0) .nil))) (.cons (.not_ (.bi false .all (.cons (.lc false [3] (.call "is_integer" d_is_integer (.cons (.var 3) (.cons (.neg (.cst (.int 99))) (.cons (.cst (.int 99)) .nil)))) (.one 3) (.exp (.var 2)) .none) .nil))) .nil)))) (.cons (.ret (.cst (.bl false)))
  .nil) .nil)
  .nil))
  (.cons (.ret (.cst (.bl true)))
  .nil)))
def d_are_valid_losses : FnSem := run false 2 4 b_are_valid_losses
def b_are_losses : MSs := (.cons (.expr (.call "require_model" d_require_model (.cons (.var 0) .nil)))
  (.cons (.ret (.call "are_valid_losses" d_are_valid_losses (.cons (.var 0) (.cons (.var 1) .nil))))
  .nil))
def d_are_losses : FnSem := run false 2 2 b_are_losses
def b_require_losses : MSs := (.cons (.expr (.call "require_model" d_require_model (.cons (.var 0) .nil)))
  (.cons (.ifs (.not_ (.call "are_valid_losses" d_are_valid_losses (.cons (.var 0) (.cons (.var 1) .nil)))) (.cons (.rais "InvalidLosses" 2)
  .nil) .nil)
  .nil))
def d_require_losses : FnSem := run false 2 2 b_require_losses
def b_is_valid_rule : MSs := (.cons (.ifs (.or_ (.cons (.not_ (.isi (.var 2) .tuple)) (.cons (.cmp .ne (.bi false .len (.cons (.var 2) .nil)) (.bi false .len (.cons (.ix (.var 0) (.cst (.int 0))) .nil))) .nil))) (.cons (.ret (.cst (.bl false)))
  .nil) .nil)
  (.cons (.ret (.bi false .all (.cons (.lc false [3] (.call "is_integer" d_is_integer (.cons (.var 3) (.cons (.cst (.int 0)) (.cons (.bin false .sub (.bi false .len (.cons (.var 1) .nil)) (.cst (.int 1))) .nil)))) (.one 3) (.exp (.var 2)) .none) .nil)))
  .nil))
def d_is_valid_rule : FnSem := run false 3 4 b_is_valid_rule
def b_is_rule : MSs := (.cons (.expr (.call "require_losses" d_require_losses (.cons (.var 0) (.cons (.var 1) .nil))))
  (.cons (.ret (.call "is_valid_rule" d_is_valid_rule (.cons (.var 0) (.cons (.var 1) (.cons (.var 2) .nil)))))
  .nil))
def d_is_rule : FnSem := run false 3 3 b_is_rule
def b_require_rule : MSs := (.cons (.expr (.call "require_losses" d_require_losses (.cons (.var 0) (.cons (.var 1) .nil))))
  (.cons (.ifs (.not_ (.call "is_valid_rule" d_is_valid_rule (.cons (.var 0) (.cons (.var 1) (.cons (.var 2) .nil))))) (.cons (.rais "InvalidRule" 3)
  .nil) .nil)
  .nil))
def d_require_rule : FnSem := run false 3 3 b_require_rule
def b_is_valid_mixed : MSs := (.cons (.ifs (.or_ (.cons (.not_ (.isi (.var 2) .tuple)) (.cons (.cmp .ne (.bi false .len (.cons (.var 2) .nil)) (.bi false .len (.cons (.ix (.var 0) (.cst (.int 0))) .nil))) .nil))) (.cons (.ret (.cst (.bl false)))
  .nil) .nil)
  (.cons (.ret (.bi false .all (.cons (.lc false [3] (.call "are_chances" d_are_chances (.cons (.var 3) (.cons (.bi false .len (.cons (.var 1) .nil)) (.cons (.bi false .len (.cons (.var 1) .nil)) .nil)))) (.one 3) (.exp (.var 2)) .none) .nil)))
  .nil))
def d_is_valid_mixed : FnSem := run false 3 4 b_is_valid_mixed
def b_is_mixed : MSs := (.cons (.expr (.call "require_losses" d_require_losses (.cons (.var 0) (.cons (.var 1) .nil))))
  (.cons (.ret (.call "is_valid_mixed" d_is_valid_mixed (.cons (.var 0) (.cons (.var 1) (.cons (.var 2) .nil)))))
  .nil))
def d_is_mixed : FnSem := run false 3 3 b_is_mixed
def b_mixed_of : MSs := (.cons (.ret (.bi false .tuple (.cons (.lc false [2] (.bi false .tuple (.cons (.lc false [3] (.tup (.cons (.bi false .int (.cons (.cmp .eq (.var 3) (.var 2)) .nil)) (.cons (.cst (.int 1)) .nil))) (.one 3) (.rng1 (.bi false .len (.cons (.var 0) .nil))) .none) .nil)) (.one 2) (.exp (.var 1)) .none) .nil)))
  .nil)
def d_mixed_of : FnSem := run false 2 4 b_mixed_of
def b_as_mixed : MSs := (.cons (.expr (.call "require_rule" d_require_rule (.cons (.var 0) (.cons (.var 1) (.cons (.var 2) .nil)))))
  (.cons (.ret (.call "mixed_of" d_mixed_of (.cons (.var 1) (.cons (.var 2) .nil))))
  .nil))
def d_as_mixed : FnSem := run false 3 3 b_as_mixed
def b__law_same (g : FnSem) : MSs := (.cons (.ifs (.cmp .is_ (.var 1) (.cst .non)) (.cons (.ret (.cmp .is_ (.var 0) (.cst .non)))
  .nil) .nil)
  (.cons (.ifs (.isi (.var 1) .bool) (.cons (.ret (.and_ (.cons (.isi (.var 0) .bool) (.cons (.cmp .eq (.var 0) (.var 1)) .nil))))
  .nil) .nil)
  (.cons (.ifs (.isi (.var 1) .tuple) (.cons (.ifs (.or_ (.cons (.not_ (.isi (.var 0) .tuple)) (.cons (.cmp .ne (.bi false .len (.cons (.var 0) .nil)) (.bi false .len (.cons (.var 1) .nil))) .nil))) (.cons (.ret (.cst (.bl false)))
  .nil) .nil)
  (.cons (.ret (.bi false .all (.cons (.lc false [2, 3] (.call "_law_same" g (.cons (.var 2) (.cons (.var 3) .nil))) (.tup [2, 3]) (.zip (.var 0) (.var 1)) .none) .nil)))
  .nil)) .nil)
  (.cons (.ifs (.isi (.var 1) .str) (.cons (.ret (.and_ (.cons (.isi (.var 0) .str) (.cons (.cmp .eq (.var 0) (.var 1)) .nil))))
  .nil) .nil)
  (.cons (.ret (.and_ (.cons (.isi (.var 0) .int) (.cons (.not_ (.isi (.var 0) .bool)) (.cons (.cmp .eq (.var 0) (.var 1)) .nil)))))
  .nil)))))
def d__law_same : Nat → FnSem
  | 0 => fun _ _ _ => .stuck
  | k + 1 => run false 2 4 (b__law_same (d__law_same k))
def b__law_chances : MSs := (.cons (.asg (.var 3) (.lc true [4] (.call "_law_draw" d__law_draw (.cons (.var 0) (.cons (.var 1) (.cons (.cst (.int 4)) .nil)))) (.one 4) (.rng1 (.var 2)) .none))
  (.cons (.ifs (.cmp .eq (.bi false .sum (.cons (.var 3) .nil)) (.cst (.int 0))) (.cons (.asg (.sub (.var 3) (.cst (.int 0))) (.cst (.int 1)))
  .nil) .nil)
  (.cons (.ret (.call "_law_spread" d__law_spread (.cons (.var 3) .nil)))
  .nil)))
def d__law_chances : FnSem := run false 3 5 b__law_chances
def b__law_losses : MSs := (.cons (.asg (.var 3) (.lst true .nil))
  (.cons (.for_ (.one 4) (.rng1 (.bin false .add (.cst (.int 1)) (.call "_law_draw" d__law_draw (.cons (.var 0) (.cons (.var 1) (.cons (.cst (.int 3)) .nil)))))) (.cons (.expr (.bm false .append (.var 3) (.cons (.bi false .tuple (.cons (.lc false [5] (.bin false .sub (.call "_law_draw" d__law_draw (.cons (.var 0) (.cons (.var 1) (.cons (.cst (.int 9)) .nil)))) (.cst (.int 4))) (.one 5) (.exp (.var 2)) .none) .nil)) .nil)))
  .nil))
  (.cons (.ret (.bi false .tuple (.cons (.var 3) .nil)))
  .nil)))
def d__law_losses : FnSem := run false 3 6 b__law_losses
def b__law_pure : MSs := (.cons (.ret (.bi false .tuple (.cons (.lc false [2] (.bi false .tuple (.cons (.lc false [3] (.tup (.cons (.bi false .int (.cons (.cmp .eq (.var 3) (.var 2)) .nil)) (.cons (.cst (.int 1)) .nil))) (.one 3) (.rng1 (.bi false .len (.cons (.var 0) .nil))) .none) .nil)) (.one 2) (.exp (.var 1)) .none) .nil)))
  .nil)
def d__law_pure : FnSem := run false 2 4 b__law_pure
def b__law_mixed : MSs := (.cons (.ifs (.call "_law_draw" d__law_draw (.cons (.var 0) (.cons (.var 1) (.cons (.cst (.int 2)) .nil)))) (.cons (.ret (.call "_law_pure" d__law_pure (.cons (.var 3) (.cons (.lc false [4] (.call "_law_draw" d__law_draw (.cons (.var 0) (.cons (.var 1) (.cons (.bi false .len (.cons (.var 3) .nil)) .nil)))) (.one 4) (.exp (.ix (.var 2) (.cst (.int 0)))) .none) .nil))))
  .nil) .nil)
  (.cons (.ret (.bi false .tuple (.cons (.lc false [4] (.call "_law_chances" d__law_chances (.cons (.var 0) (.cons (.var 1) (.cons (.bi false .len (.cons (.var 3) .nil)) .nil)))) (.one 4) (.exp (.ix (.var 2) (.cst (.int 0)))) .none) .nil)))
  .nil))
def d__law_mixed : FnSem := run false 4 5 b__law_mixed
def b_times : MSs := (.cons (.ret (.call "lowest_terms" d_lowest_terms (.cons (.bin false .mul (.ix (.var 0) (.cst (.int 0))) (.ix (.var 1) (.cst (.int 0)))) (.cons (.bin false .mul (.ix (.var 0) (.cst (.int 1))) (.ix (.var 1) (.cst (.int 1)))) .nil))))
  .nil)
def d_times : FnSem := run false 2 2 b_times
def b_whole : MSs := (.cons (.ret (.tup (.cons (.var 0) (.cons (.cst (.int 1)) .nil))))
  .nil)
def d_whole : FnSem := run false 1 1 b_whole
def b_product_sum : MSs := (.cons (.ret (.call "total_of" d_total_of (.cons (.lc false [2, 3] (.call "times" d_times (.cons (.var 2) (.cons (.var 3) .nil))) (.tup [2, 3]) (.zip (.var 0) (.var 1)) .none) .nil)))
  .nil)
def d_product_sum : FnSem := run false 2 4 b_product_sum
def b_require_mixed : MSs := (.cons (.expr (.call "require_losses" d_require_losses (.cons (.var 0) (.cons (.var 1) .nil))))
  (.cons (.ifs (.not_ (.call "is_valid_mixed" d_is_valid_mixed (.cons (.var 0) (.cons (.var 1) (.cons (.var 2) .nil))))) (.cons (.rais "InvalidMixed" 4)
  .nil) .nil)
  .nil))
def d_require_mixed : FnSem := run false 3 3 b_require_mixed
def b_mean_losses : MSs := (.cons (.ret (.call "product_sum" d_product_sum (.cons (.lc false [3] (.call "whole" d_whole (.cons (.ix (.var 3) (.var 1)) .nil)) (.one 3) (.exp (.var 0)) .none) (.cons (.var 2) .nil))))
  .nil)
def d_mean_losses : FnSem := run false 3 4 b_mean_losses
def b_risks_of : MSs := (.cons (.asg (.var 3) (.lst true .nil))
  (.cons (.for_ (.tup [4, 5]) (.enum (.var 0)) (.cons (.asg (.var 6) (.lc false [7, 8] (.call "times" d_times (.cons (.var 7) (.cons (.call "mean_losses" d_mean_losses (.cons (.var 1) (.cons (.var 4) (.cons (.var 8) .nil)))) .nil))) (.tup [7, 8]) (.zip (.var 5) (.var 2)) .none))
  (.cons (.expr (.bm false .append (.var 3) (.cons (.call "total_of" d_total_of (.cons (.var 6) .nil)) .nil)))
  .nil)))
  (.cons (.ret (.bi false .tuple (.cons (.var 3) .nil)))
  .nil)))
def d_risks_of : FnSem := run false 3 9 b_risks_of
def b_risks : MSs := (.cons (.expr (.call "require_rule" d_require_rule (.cons (.var 0) (.cons (.var 1) (.cons (.var 2) .nil)))))
  (.cons (.ret (.call "risks_of" d_risks_of (.cons (.var 0) (.cons (.var 1) (.cons (.call "mixed_of" d_mixed_of (.cons (.var 1) (.cons (.var 2) .nil))) .nil)))))
  .nil))
def d_risks : FnSem := run false 3 3 b_risks
def b_mixed_risks : MSs := (.cons (.expr (.call "require_mixed" d_require_mixed (.cons (.var 0) (.cons (.var 1) (.cons (.var 2) .nil)))))
  (.cons (.ret (.call "risks_of" d_risks_of (.cons (.var 0) (.cons (.var 1) (.cons (.var 2) .nil)))))
  .nil))
def d_mixed_risks : FnSem := run false 3 3 b_mixed_risks
def b__law_times : MSs := (.cons (.ret (.call "_law_fraction" d__law_fraction (.cons (.bin false .mul (.ix (.var 0) (.cst (.int 0))) (.ix (.var 1) (.cst (.int 0)))) (.cons (.bin false .mul (.ix (.var 0) (.cst (.int 1))) (.ix (.var 1) (.cst (.int 1)))) .nil))))
  .nil)
def d__law_times : FnSem := run false 2 2 b__law_times
def b__law_dot : MSs := (.cons (.ret (.call "_law_total" d__law_total (.cons (.lc false [2, 3] (.call "_law_times" d__law_times (.cons (.var 2) (.cons (.var 3) .nil))) (.tup [2, 3]) (.zip (.var 0) (.var 1)) .none) .nil)))
  .nil)
def d__law_dot : FnSem := run false 2 4 b__law_dot
def b__law_risks : MSs := (.cons (.asg (.var 3) (.lst true .nil))
  (.cons (.for_ (.one 4) (.rng1 (.bi false .len (.cons (.var 0) .nil))) (.cons (.asg (.var 5) (.lc false [6] (.tup (.cons (.ix (.var 6) (.var 4)) (.cons (.cst (.int 1)) .nil))) (.one 6) (.exp (.var 1)) .none))
  (.cons (.expr (.bm false .append (.var 3) (.cons (.call "_law_dot" d__law_dot (.cons (.ix (.var 0) (.var 4)) (.cons (.lc false [6] (.call "_law_dot" d__law_dot (.cons (.var 5) (.cons (.var 6) .nil))) (.one 6) (.exp (.var 2)) .none) .nil))) .nil)))
  .nil)))
  (.cons (.ret (.bi false .tuple (.cons (.var 3) .nil)))
  .nil)))
def d__law_risks : FnSem := run false 3 7 b__law_risks
def b__law_risks_or : MSs := (.cons (.tryc (.cons (.ret (.call "risks" d_risks (.cons (.var 0) (.cons (.var 1) (.cons (.var 2) .nil)))))
  .nil) [("InvalidModel", 1, "InvalidModel"), ("InvalidLosses", 2, "InvalidLosses"), ("InvalidRule", 3, "InvalidRule")])
  .nil)
def d__law_risks_or : FnSem := run false 3 3 b__law_risks_or
def b__law_mixed_risks_or : MSs := (.cons (.tryc (.cons (.ret (.call "mixed_risks" d_mixed_risks (.cons (.var 0) (.cons (.var 1) (.cons (.var 2) .nil)))))
  .nil) [("InvalidModel", 1, "InvalidModel"), ("InvalidLosses", 2, "InvalidLosses"), ("InvalidMixed", 4, "InvalidMixed")])
  .nil)
def d__law_mixed_risks_or : FnSem := run false 3 3 b__law_mixed_risks_or
def b_over : MSs := (.cons (.ret (.call "lowest_terms" d_lowest_terms (.cons (.bin false .mul (.ix (.var 0) (.cst (.int 0))) (.ix (.var 1) (.cst (.int 1)))) (.cons (.bin false .mul (.ix (.var 0) (.cst (.int 1))) (.ix (.var 1) (.cst (.int 0)))) .nil))))
  .nil)
def d_over : FnSem := run false 2 2 b_over
def b_is_valid_belief : MSs := (.cons (.ret (.call "are_chances" d_are_chances (.cons (.var 1) (.cons (.bi false .len (.cons (.var 0) .nil)) (.cons (.bi false .len (.cons (.var 0) .nil)) .nil)))))
  .nil)
def d_is_valid_belief : FnSem := run false 2 2 b_is_valid_belief
def b_is_belief : MSs := (.cons (.expr (.call "require_model" d_require_model (.cons (.var 0) .nil)))
  (.cons (.ret (.call "is_valid_belief" d_is_valid_belief (.cons (.var 0) (.cons (.var 1) .nil))))
  .nil))
def d_is_belief : FnSem := run false 2 2 b_is_belief
def b_require_belief : MSs := (.cons (.ifs (.not_ (.call "is_valid_belief" d_is_valid_belief (.cons (.var 0) (.cons (.var 1) .nil)))) (.cons (.rais "InvalidBelief" 5)
  .nil) .nil)
  .nil)
def d_require_belief : FnSem := run false 2 2 b_require_belief
def b_require_observation : MSs := (.cons (.ifs (.not_ (.call "is_integer" d_is_integer (.cons (.var 1) (.cons (.cst (.int 0)) (.cons (.bin false .sub (.bi false .len (.cons (.ix (.var 0) (.cst (.int 0))) .nil)) (.cst (.int 1))) .nil))))) (.cons (.rais "InvalidObservation" 6)
  .nil) .nil)
  .nil)
def d_require_observation : FnSem := run false 2 2 b_require_observation
def b_shares : MSs := (.cons (.ret (.lc false [3, 4] (.call "times" d_times (.cons (.var 3) (.cons (.ix (.var 4) (.var 2)) .nil))) (.tup [3, 4]) (.zip (.var 1) (.var 0)) .none))
  .nil)
def d_shares : FnSem := run false 3 5 b_shares
def b_require_all : MSs := (.cons (.expr (.call "require_model" d_require_model (.cons (.var 0) .nil)))
  (.cons (.expr (.call "require_belief" d_require_belief (.cons (.var 0) (.cons (.var 1) .nil))))
  (.cons (.expr (.call "require_observation" d_require_observation (.cons (.var 0) (.cons (.var 2) .nil))))
  .nil)))
def d_require_all : FnSem := run false 3 3 b_require_all
def b_chance : MSs := (.cons (.expr (.call "require_all" d_require_all (.cons (.var 0) (.cons (.var 1) (.cons (.var 2) .nil)))))
  (.cons (.ret (.call "total_of" d_total_of (.cons (.call "shares" d_shares (.cons (.var 0) (.cons (.var 1) (.cons (.var 2) .nil)))) .nil)))
  .nil))
def d_chance : FnSem := run false 3 3 b_chance
def b_belief_after : MSs := (.cons (.asg (.var 3) (.call "shares" d_shares (.cons (.var 0) (.cons (.var 1) (.cons (.var 2) .nil)))))
  (.cons (.asg (.var 4) (.call "total_of" d_total_of (.cons (.var 3) .nil)))
  (.cons (.ret (.ite (.cmp .eq (.ix (.var 4) (.cst (.int 0))) (.cst (.int 0))) (.cst .non) (.bi false .tuple (.cons (.lc false [5] (.call "over" d_over (.cons (.var 5) (.cons (.var 4) .nil))) (.one 5) (.exp (.var 3)) .none) .nil))))
  .nil)))
def d_belief_after : FnSem := run false 3 6 b_belief_after
def b_after : MSs := (.cons (.expr (.call "require_all" d_require_all (.cons (.var 0) (.cons (.var 1) (.cons (.var 2) .nil)))))
  (.cons (.ret (.call "belief_after" d_belief_after (.cons (.var 0) (.cons (.var 1) (.cons (.var 2) .nil)))))
  .nil))
def d_after : FnSem := run false 3 3 b_after
def b_less : MSs := (.cons (.ret (.cmp .lt (.bin false .mul (.ix (.var 0) (.cst (.int 0))) (.ix (.var 1) (.cst (.int 1)))) (.bin false .mul (.ix (.var 1) (.cst (.int 0))) (.ix (.var 0) (.cst (.int 1))))))
  .nil)
def d_less : FnSem := run false 2 2 b_less
def b_least_of : MSs := (.cons (.asg (.var 1) (.ix (.var 0) (.cst (.int 0))))
  (.cons (.for_ (.one 2) (.exp (.var 0)) (.cons (.ifs (.call "less" d_less (.cons (.var 2) (.cons (.var 1) .nil))) (.cons (.asg (.var 1) (.var 2))
  .nil) .nil)
  .nil))
  (.cons (.ret (.var 1))
  .nil)))
def d_least_of : FnSem := run false 1 3 b_least_of
def b_find_actions : MSs := (.cons (.asg (.var 2) (.lc false [4] (.call "product_sum" d_product_sum (.cons (.lc false [7] (.call "whole" d_whole (.cons (.var 7) .nil)) (.one 7) (.exp (.var 4)) .none) (.cons (.var 1) .nil))) (.one 4) (.exp (.var 0)) .none))
  (.cons (.asg (.var 3) (.call "least_of" d_least_of (.cons (.var 2) .nil)))
  (.cons (.ret (.lc false [5, 6] (.var 5) (.tup [5, 6]) (.enum (.var 2)) (.some (.cmp .eq (.var 6) (.var 3)))))
  .nil)))
def d_find_actions : FnSem := run false 2 8 b_find_actions
def b_best_actions : MSs := (.cons (.expr (.call "require_losses" d_require_losses (.cons (.var 0) (.cons (.var 1) .nil))))
  (.cons (.expr (.call "require_belief" d_require_belief (.cons (.var 0) (.cons (.var 2) .nil))))
  (.cons (.expr (.call "require_observation" d_require_observation (.cons (.var 0) (.cons (.var 3) .nil))))
  (.cons (.ret (.call "find_actions" d_find_actions (.cons (.var 1) (.cons (.call "shares" d_shares (.cons (.var 0) (.cons (.var 2) (.cons (.var 3) .nil)))) .nil))))
  .nil))))
def d_best_actions : FnSem := run false 4 4 b_best_actions
def b_mean_risk : MSs := (.cons (.expr (.call "require_losses" d_require_losses (.cons (.var 0) (.cons (.var 1) .nil))))
  (.cons (.expr (.call "require_belief" d_require_belief (.cons (.var 0) (.cons (.var 2) .nil))))
  (.cons (.expr (.call "require_mixed" d_require_mixed (.cons (.var 0) (.cons (.var 1) (.cons (.var 3) .nil)))))
  (.cons (.ret (.call "product_sum" d_product_sum (.cons (.var 2) (.cons (.call "risks_of" d_risks_of (.cons (.var 0) (.cons (.var 1) (.cons (.var 3) .nil)))) .nil))))
  .nil))))
def d_mean_risk : FnSem := run false 4 4 b_mean_risk
def b_find_best : MSs := (.cons (.ret (.bi false .tuple (.cons (.lc false [3] (.ix (.call "find_actions" d_find_actions (.cons (.var 1) (.cons (.call "shares" d_shares (.cons (.var 0) (.cons (.var 2) (.cons (.var 3) .nil)))) .nil))) (.cst (.int 0))) (.one 3) (.rng1 (.bi false .len (.cons (.ix (.var 0) (.cst (.int 0))) .nil))) .none) .nil)))
  .nil)
def d_find_best : FnSem := run false 3 4 b_find_best
def b_require_both : MSs := (.cons (.expr (.call "require_losses" d_require_losses (.cons (.var 0) (.cons (.var 1) .nil))))
  (.cons (.expr (.call "require_belief" d_require_belief (.cons (.var 0) (.cons (.var 2) .nil))))
  .nil))
def d_require_both : FnSem := run false 3 3 b_require_both
def b_least_of_belief : MSs := (.cons (.ret (.call "product_sum" d_product_sum (.cons (.var 2) (.cons (.call "risks_of" d_risks_of (.cons (.var 0) (.cons (.var 1) (.cons (.call "mixed_of" d_mixed_of (.cons (.var 1) (.cons (.call "find_best" d_find_best (.cons (.var 0) (.cons (.var 1) (.cons (.var 2) .nil)))) .nil))) .nil)))) .nil))))
  .nil)
def d_least_of_belief : FnSem := run false 3 3 b_least_of_belief
def b_least_risk : MSs := (.cons (.expr (.call "require_both" d_require_both (.cons (.var 0) (.cons (.var 1) (.cons (.var 2) .nil)))))
  (.cons (.ret (.call "least_of_belief" d_least_of_belief (.cons (.var 0) (.cons (.var 1) (.cons (.var 2) .nil)))))
  .nil))
def d_least_risk : FnSem := run false 3 3 b_least_risk
def b_best_rule : MSs := (.cons (.expr (.call "require_both" d_require_both (.cons (.var 0) (.cons (.var 1) (.cons (.var 2) .nil)))))
  (.cons (.ret (.call "find_best" d_find_best (.cons (.var 0) (.cons (.var 1) (.cons (.var 2) .nil)))))
  .nil))
def d_best_rule : FnSem := run false 3 3 b_best_rule
def b__law_below : MSs := (.cons (.ret (.cmp .lt (.bin false .mul (.ix (.var 0) (.cst (.int 0))) (.ix (.var 1) (.cst (.int 1)))) (.bin false .mul (.ix (.var 1) (.cst (.int 0))) (.ix (.var 0) (.cst (.int 1))))))
  .nil)
def d__law_below : FnSem := run false 2 2 b__law_below
def b__law_rules : MSs := (.cons (.asg (.var 2) (.lst false (.cons (.tup .nil) .nil)))
  (.cons (.for_ (.one 3) (.exp (.ix (.var 0) (.cst (.int 0)))) (.cons (.asg (.var 4) (.lst false .nil))
  (.cons (.for_ (.one 5) (.exp (.var 2)) (.cons (.asg (.var 4) (.bin false .add (.var 4) (.lc false [6] (.bin false .add (.var 5) (.tup (.cons (.var 6) .nil))) (.one 6) (.rng1 (.bi false .len (.cons (.var 1) .nil))) .none)))
  .nil))
  (.cons (.asg (.var 2) (.var 4))
  .nil))))
  (.cons (.ret (.var 2))
  .nil)))
def d__law_rules : FnSem := run false 2 7 b__law_rules
def b__law_actions : MSs := (.cons (.asg (.var 4) (.lc false [8, 9] (.call "_law_times" d__law_times (.cons (.var 8) (.cons (.ix (.var 9) (.var 3)) .nil))) (.tup [8, 9]) (.zip (.var 2) (.var 0)) .none))
  (.cons (.asg (.var 5) (.lc false [6] (.call "_law_dot" d__law_dot (.cons (.var 4) (.cons (.lc false [10] (.tup (.cons (.var 10) (.cons (.cst (.int 1)) .nil))) (.one 10) (.exp (.var 6)) .none) .nil))) (.one 6) (.exp (.var 1)) .none))
  (.cons (.ret (.lc false [7] (.var 7) (.one 7) (.rng1 (.bi false .len (.cons (.var 5) .nil))) (.some (.cmp .eq (.lc false [10] (.var 10) (.one 10) (.exp (.var 5)) (.some (.call "_law_below" d__law_below (.cons (.var 10) (.cons (.ix (.var 5) (.var 7)) .nil))))) (.lst false .nil)))))
  .nil)))
def d__law_actions : FnSem := run false 4 11 b__law_actions
def b__law_best_actions_or : MSs := (.cons (.tryc (.cons (.ret (.call "best_actions" d_best_actions (.cons (.var 0) (.cons (.var 1) (.cons (.var 2) (.cons (.var 3) .nil))))))
  .nil) [("InvalidModel", 1, "InvalidModel"), ("InvalidLosses", 2, "InvalidLosses"), ("InvalidBelief", 5, "InvalidBelief"), ("InvalidObservation", 6, "InvalidObservation")])
  .nil)
def d__law_best_actions_or : FnSem := run false 4 4 b__law_best_actions_or
def b__law_mean_risk_or : MSs := (.cons (.tryc (.cons (.ret (.call "mean_risk" d_mean_risk (.cons (.var 0) (.cons (.var 1) (.cons (.var 2) (.cons (.var 3) .nil))))))
  .nil) [("InvalidModel", 1, "InvalidModel"), ("InvalidLosses", 2, "InvalidLosses"), ("InvalidBelief", 5, "InvalidBelief"), ("InvalidMixed", 4, "InvalidMixed")])
  .nil)
def d__law_mean_risk_or : FnSem := run false 4 4 b__law_mean_risk_or
def b__law_least_risk_or : MSs := (.cons (.tryc (.cons (.ret (.call "least_risk" d_least_risk (.cons (.var 0) (.cons (.var 1) (.cons (.var 2) .nil)))))
  .nil) [("InvalidModel", 1, "InvalidModel"), ("InvalidLosses", 2, "InvalidLosses"), ("InvalidBelief", 5, "InvalidBelief")])
  .nil)
def d__law_least_risk_or : FnSem := run false 3 3 b__law_least_risk_or
def b__law_best_rule_or : MSs := (.cons (.tryc (.cons (.ret (.call "best_rule" d_best_rule (.cons (.var 0) (.cons (.var 1) (.cons (.var 2) .nil)))))
  .nil) [("InvalidModel", 1, "InvalidModel"), ("InvalidLosses", 2, "InvalidLosses"), ("InvalidBelief", 5, "InvalidBelief")])
  .nil)
def d__law_best_rule_or : FnSem := run false 3 3 b__law_best_rule_or
def b__law_only_best : MSs := (.cons (.for_ (.one 4) (.rng1 (.bi false .len (.cons (.ix (.var 0) (.cst (.int 0))) .nil))) (.cons (.asg (.var 5) (.call "best_actions" d_best_actions (.cons (.var 0) (.cons (.var 1) (.cons (.var 2) (.cons (.var 4) .nil))))))
  (.cons (.ifs (.lc false [6] (.var 6) (.one 6) (.rng1 (.bi false .len (.cons (.var 1) .nil))) (.some (.and_ (.cons (.cmp .gt (.ix (.ix (.ix (.var 3) (.var 4)) (.var 6)) (.cst (.int 0))) (.cst (.int 0))) (.cons (.cmp .notin (.var 6) (.var 5)) .nil))))) (.cons (.ret (.cst (.bl false)))
  .nil) .nil)
  .nil)))
  (.cons (.ret (.cst (.bl true)))
  .nil))
def d__law_only_best : FnSem := run false 4 7 b__law_only_best
def b__law_adds_up : MSs := (.cons (.par [3, 4] (.cons (.bin false .mul (.lst false (.cons (.tup (.cons (.cst (.int 0)) (.cons (.cst (.int 1)) .nil))) .nil)) (.bi false .len (.cons (.var 1) .nil))) (.cons (.tup (.cons (.cst (.int 0)) (.cons (.cst (.int 1)) .nil))) .nil)))
  (.cons (.for_ (.one 2) (.rng1 (.bi false .len (.cons (.ix (.var 0) (.cst (.int 0))) .nil))) (.cons (.asgT [(.var 5), (.var 6)] (.tup (.cons (.call "chance" d_chance (.cons (.var 0) (.cons (.var 1) (.cons (.var 2) .nil)))) (.cons (.call "after" d_after (.cons (.var 0) (.cons (.var 1) (.cons (.var 2) .nil)))) .nil))))
  (.cons (.asg (.var 4) (.call "_law_plus" d__law_plus (.cons (.var 4) (.cons (.var 5) .nil))))
  (.cons (.ifs (.or_ (.cons (.cmp .ne (.cmp .is_ (.var 6) (.cst .non)) (.cmp .eq (.var 5) (.tup (.cons (.cst (.int 0)) (.cons (.cst (.int 1)) .nil))))) (.cons (.and_ (.cons (.cmp .isnot (.var 6) (.cst .non)) (.cons (.not_ (.call "is_belief" d_is_belief (.cons (.var 0) (.cons (.var 6) .nil)))) .nil))) .nil))) (.cons (.ret (.cst (.bl false)))
  .nil) .nil)
  (.cons (.ifs (.cmp .isnot (.var 6) (.cst .non)) (.cons (.asg (.var 3) (.lc false [7, 8] (.call "_law_plus" d__law_plus (.cons (.var 7) (.cons (.call "_law_times" d__law_times (.cons (.var 5) (.cons (.var 8) .nil))) .nil))) (.tup [7, 8]) (.zip (.var 3) (.var 6)) .none))
  .nil) .nil)
  .nil)))))
  (.cons (.ret (.and_ (.cons (.cmp .eq (.var 4) (.tup (.cons (.cst (.int 1)) (.cons (.cst (.int 1)) .nil)))) (.cons (.cmp .eq (.bi false .tuple (.cons (.var 3) .nil)) (.var 1)) .nil))))
  .nil)))
def d__law_adds_up : FnSem := run false 2 9 b__law_adds_up
def b_law_k06 : MSs := (.cons (.asg (.var 1) (.lst true .nil))
  (.cons (.for_ (.one 2) (.rng1 (.cst (.int 8))) (.cons (.asg (.var 3) (.call "_law_model" d__law_model (.cons (.var 0) (.cons (.var 1) (.cons (.cst (.int 5)) .nil)))))
  (.cons (.par [7, 8] (.cons (.call "_law_losses" d__law_losses (.cons (.var 0) (.cons (.var 1) (.cons (.var 3) .nil)))) (.cons (.call "_law_chances" d__law_chances (.cons (.var 0) (.cons (.var 1) (.cons (.bi false .len (.cons (.var 3) .nil)) .nil)))) .nil)))
  (.cons (.ifs (.not_ (.call "_law_adds_up" d__law_adds_up (.cons (.var 3) (.cons (.var 8) .nil)))) (.cons (.ret (.cst (.bl false)))
  .nil) .nil)
  (.cons (.asg (.var 4) (.call "least_risk" d_least_risk (.cons (.var 3) (.cons (.var 7) (.cons (.var 8) .nil)))))
  (.cons (.asg (.var 5) (.call "as_mixed" d_as_mixed (.cons (.var 3) (.cons (.var 7) (.cons (.call "best_rule" d_best_rule (.cons (.var 3) (.cons (.var 7) (.cons (.var 8) .nil)))) .nil)))))
  (.cons (.for_ (.one 6) (.exp (.lst false (.cons (.var 5) (.cons (.call "_law_mixed" d__law_mixed (.cons (.var 0) (.cons (.var 1) (.cons (.var 3) (.cons (.var 7) .nil))))) (.cons (.call "_law_mixed" d__law_mixed (.cons (.var 0) (.cons (.var 1) (.cons (.var 3) (.cons (.var 7) .nil))))) .nil))))) (.cons (.par [9, 10] (.cons (.call "mean_risk" d_mean_risk (.cons (.var 3) (.cons (.var 7) (.cons (.var 8) (.cons (.var 6) .nil))))) (.cons (.call "_law_only_best" d__law_only_best (.cons (.var 3) (.cons (.var 7) (.cons (.var 8) (.cons (.var 6) .nil))))) .nil)))
  (.cons (.ifs (.or_ (.cons (.call "_law_below" d__law_below (.cons (.var 9) (.cons (.var 4) .nil))) (.cons (.cmp .ne (.cmp .eq (.var 9) (.var 4)) (.var 10)) .nil))) (.cons (.ret (.cst (.bl false)))
  .nil) .nil)
  .nil)))
  (.cons (.ifs (.cmp .ne (.call "mean_risk" d_mean_risk (.cons (.var 3) (.cons (.var 7) (.cons (.var 8) (.cons (.var 5) .nil))))) (.var 4)) (.cons (.ret (.cst (.bl false)))
  .nil) .nil)
  .nil))))))))
  (.cons (.ret (.cst (.bl true)))
  .nil)))
def d_law_k06 : FnSem := run false 1 11 b_law_k06
def b__law_minus : MSs := (.cons (.ret (.call "_law_plus" d__law_plus (.cons (.var 0) (.cons (.tup (.cons (.neg (.ix (.var 1) (.cst (.int 0)))) (.cons (.ix (.var 1) (.cst (.int 1))) .nil))) .nil))))
  .nil)
def d__law_minus : FnSem := run false 2 2 b__law_minus
def b_minus : MSs := (.cons (.ret (.call "plus" d_plus (.cons (.var 0) (.cons (.tup (.cons (.neg (.ix (.var 1) (.cst (.int 0)))) (.cons (.ix (.var 1) (.cst (.int 1))) .nil))) .nil))))
  .nil)
def d_minus : FnSem := run false 2 2 b_minus
end Lb
namespace K06
open PySem Mn L2
def topS (i : Nat) : Stmt := PySem.Challenge.pw_lossrules_k06_whole_beliefs.main.body.getD i (.Pass ⟨0, 0, 0, 0⟩)
def exN : List (Nat × PySem.Str) := [(1, "InvalidModel"), (2, "InvalidLosses"), (3, "InvalidRule"), (4, "InvalidMixed"), (5, "InvalidBelief"), (6, "InvalidObservation")]
def N_common_divisor : List PySem.Str := ["one", "other"]
theorem ck_common_divisor : defCk N_common_divisor ["one", "other"] (topS 9) Lb.b_common_divisor = true := by kernel_rfl
theorem lv_common_divisor {L : Lk}  : LvSs L Lb.b_common_divisor := (And.intro (And.intro True.intro (And.intro (And.intro True.intro (And.intro (And.intro True.intro True.intro) True.intro)) True.intro)) (And.intro True.intro True.intro))
def N_lowest_terms : List PySem.Str := ["top", "bottom", "divisor"]
theorem ck_lowest_terms : defCk N_lowest_terms ["top", "bottom"] (topS 10) Lb.b_lowest_terms = true := by kernel_rfl
theorem lv_lowest_terms {L : Lk} (h_common_divisor : L.P "common_divisor" Lb.d_common_divisor) : LvSs L Lb.b_lowest_terms := (And.intro (And.intro (And.intro True.intro True.intro) (And.intro (And.intro (And.intro True.intro (And.intro True.intro True.intro)) True.intro) True.intro)) (And.intro (And.intro True.intro (And.intro h_common_divisor (And.intro (And.intro True.intro True.intro) (And.intro True.intro True.intro)))) (And.intro (And.intro (And.intro True.intro True.intro) (And.intro (And.intro True.intro True.intro) True.intro)) True.intro)))
def N_is_fraction : List PySem.Str := ["candidate", "one"]
theorem ck_is_fraction : defCk N_is_fraction ["candidate"] (topS 11) Lb.b_is_fraction = true := by kernel_rfl
theorem lv_is_fraction {L : Lk} (h_common_divisor : L.P "common_divisor" Lb.d_common_divisor) : LvSs L Lb.b_is_fraction := (And.intro (And.intro (And.intro True.intro (And.intro (And.intro (And.intro True.intro True.intro) True.intro) True.intro)) (And.intro (And.intro True.intro True.intro) True.intro)) (And.intro (And.intro (And.intro (And.intro (And.intro (And.intro True.intro (And.intro True.intro True.intro)) (And.intro True.intro True.intro)) True.intro) (And.intro (And.intro (And.intro True.intro True.intro) True.intro) True.intro)) (And.intro (And.intro True.intro True.intro) True.intro)) (And.intro (And.intro (And.intro h_common_divisor (And.intro (And.intro (And.intro True.intro True.intro) True.intro) (And.intro (And.intro True.intro True.intro) True.intro))) True.intro) True.intro)))
def N_plus : List PySem.Str := ["one", "other"]
theorem ck_plus : defCk N_plus ["one", "other"] (topS 12) Lb.b_plus = true := by kernel_rfl
theorem lv_plus {L : Lk} (h_lowest_terms : L.P "lowest_terms" Lb.d_lowest_terms) : LvSs L Lb.b_plus := (And.intro (And.intro h_lowest_terms (And.intro (And.intro (And.intro (And.intro True.intro True.intro) (And.intro True.intro True.intro)) (And.intro (And.intro True.intro True.intro) (And.intro True.intro True.intro))) (And.intro (And.intro (And.intro True.intro True.intro) (And.intro True.intro True.intro)) True.intro))) True.intro)
def N_times : List PySem.Str := ["one", "other"]
theorem ck_times : defCk N_times ["one", "other"] (topS 13) Lb.b_times = true := by kernel_rfl
theorem lv_times {L : Lk} (h_lowest_terms : L.P "lowest_terms" Lb.d_lowest_terms) : LvSs L Lb.b_times := (And.intro (And.intro h_lowest_terms (And.intro (And.intro (And.intro True.intro True.intro) (And.intro True.intro True.intro)) (And.intro (And.intro (And.intro True.intro True.intro) (And.intro True.intro True.intro)) True.intro))) True.intro)
def N_over : List PySem.Str := ["one", "other"]
theorem ck_over : defCk N_over ["one", "other"] (topS 14) Lb.b_over = true := by kernel_rfl
theorem lv_over {L : Lk} (h_lowest_terms : L.P "lowest_terms" Lb.d_lowest_terms) : LvSs L Lb.b_over := (And.intro (And.intro h_lowest_terms (And.intro (And.intro (And.intro True.intro True.intro) (And.intro True.intro True.intro)) (And.intro (And.intro (And.intro True.intro True.intro) (And.intro True.intro True.intro)) True.intro))) True.intro)
def N_less : List PySem.Str := ["one", "other"]
theorem ck_less : defCk N_less ["one", "other"] (topS 15) Lb.b_less = true := by kernel_rfl
theorem lv_less {L : Lk}  : LvSs L Lb.b_less := (And.intro (And.intro (And.intro (And.intro True.intro True.intro) (And.intro True.intro True.intro)) (And.intro (And.intro True.intro True.intro) (And.intro True.intro True.intro))) True.intro)
def N_total_of : List PySem.Str := ["fractions", "found", "one"]
theorem ck_total_of : defCk N_total_of ["fractions"] (topS 16) Lb.b_total_of = true := by kernel_rfl
theorem lv_total_of {L : Lk} (h_plus : L.P "plus" Lb.d_plus) : LvSs L Lb.b_total_of := (And.intro (And.intro True.intro (And.intro True.intro (And.intro True.intro True.intro))) (And.intro (And.intro True.intro (And.intro (And.intro True.intro (And.intro h_plus (And.intro True.intro (And.intro True.intro True.intro)))) True.intro)) (And.intro True.intro True.intro)))
def N_whole : List PySem.Str := ["number"]
theorem ck_whole : defCk N_whole ["number"] (topS 17) Lb.b_whole = true := by kernel_rfl
theorem lv_whole {L : Lk}  : LvSs L Lb.b_whole := (And.intro (And.intro True.intro (And.intro True.intro True.intro)) True.intro)
def N_product_sum : List PySem.Str := ["left", "right", "one", "other"]
theorem ck_product_sum : defCk N_product_sum ["left", "right"] (topS 18) Lb.b_product_sum = true := by kernel_rfl
theorem lv_product_sum {L : Lk} (h_total_of : L.P "total_of" Lb.d_total_of) (h_times : L.P "times" Lb.d_times) : LvSs L Lb.b_product_sum := (And.intro (And.intro h_total_of (And.intro (And.intro (And.intro h_times (And.intro True.intro (And.intro True.intro True.intro))) (And.intro (And.intro True.intro True.intro) True.intro)) True.intro)) True.intro)
def N_is_integer : List PySem.Str := ["candidate", "least", "most"]
theorem ck_is_integer : defCk N_is_integer ["candidate", "least", "most"] (topS 20) Lb.b_is_integer = true := by kernel_rfl
theorem lv_is_integer {L : Lk}  : LvSs L Lb.b_is_integer := (And.intro (And.intro True.intro (And.intro True.intro (And.intro (And.intro True.intro (And.intro True.intro True.intro)) True.intro))) True.intro)
def N_are_chances : List PySem.Str := ["candidate", "least", "most", "one"]
theorem ck_are_chances : defCk N_are_chances ["candidate", "least", "most"] (topS 21) Lb.b_are_chances = true := by kernel_rfl
theorem lv_are_chances {L : Lk} (h_total_of : L.P "total_of" Lb.d_total_of) (h_is_fraction : L.P "is_fraction" Lb.d_is_fraction) : LvSs L Lb.b_are_chances := (And.intro (And.intro (And.intro True.intro (And.intro (And.intro True.intro (And.intro (And.intro True.intro True.intro) True.intro)) True.intro)) (And.intro (And.intro True.intro True.intro) True.intro)) (And.intro (And.intro (And.intro (And.intro (And.intro (And.intro h_is_fraction (And.intro True.intro True.intro)) (And.intro (And.intro (And.intro True.intro True.intro) True.intro) True.intro)) (And.intro True.intro True.intro)) True.intro) (And.intro (And.intro True.intro True.intro) True.intro)) (And.intro (And.intro (And.intro h_total_of (And.intro True.intro True.intro)) (And.intro True.intro (And.intro True.intro True.intro))) True.intro)))
def N_is_model : List PySem.Str := ["candidate", "spot", "row"]
theorem ck_is_model : defCk N_is_model ["candidate"] (topS 22) Lb.b_is_model = true := by kernel_rfl
theorem lv_is_model {L : Lk} (h_are_chances : L.P "are_chances" Lb.d_are_chances) : LvSs L Lb.b_is_model := (And.intro (And.intro (And.intro True.intro (And.intro (And.intro True.intro (And.intro (And.intro True.intro True.intro) True.intro)) True.intro)) (And.intro (And.intro True.intro True.intro) True.intro)) (And.intro (And.intro (And.intro (And.intro (And.intro h_are_chances (And.intro True.intro (And.intro True.intro (And.intro True.intro True.intro)))) (And.intro True.intro True.intro)) True.intro) (And.intro (And.intro True.intro True.intro) True.intro)) (And.intro (And.intro (And.intro (And.intro (And.intro (And.intro True.intro True.intro) (And.intro (And.intro True.intro True.intro) True.intro)) (And.intro True.intro True.intro)) True.intro) (And.intro (And.intro True.intro True.intro) True.intro)) (And.intro (And.intro (And.intro (And.intro (And.intro (And.intro (And.intro (And.intro True.intro True.intro) True.intro) True.intro) (And.intro True.intro True.intro)) True.intro) (And.intro (And.intro (And.intro True.intro True.intro) True.intro) True.intro)) True.intro) True.intro))))
def N_require_model : List PySem.Str := ["model"]
theorem ck_require_model : defCk N_require_model ["model"] (topS 23) Lb.b_require_model = true := by kernel_rfl
theorem lv_require_model {L : Lk} (h_is_model : L.P "is_model" Lb.d_is_model) (hE : ∀ x c, exN.lookup c = some x → L.E x c) (hQ : ∀ c c', (exN.lookup c).isSome = true → (exN.lookup c').isSome = true → L.Q c c') : LvSs L Lb.b_require_model := (And.intro (And.intro (And.intro h_is_model (And.intro True.intro True.intro)) (And.intro (And.intro (hE "InvalidModel" 1 rfl) True.intro) True.intro)) True.intro)
def N_are_valid_losses : List PySem.Str := ["model", "candidate", "row", "one"]
theorem ck_are_valid_losses : defCk N_are_valid_losses ["model", "candidate"] (topS 24) Lb.b_are_valid_losses = true := by kernel_rfl
theorem lv_are_valid_losses {L : Lk} (h_is_integer : L.P "is_integer" Lb.d_is_integer) : LvSs L Lb.b_are_valid_losses := (And.intro (And.intro (And.intro True.intro (And.intro (And.intro True.intro (And.intro (And.intro True.intro True.intro) True.intro)) True.intro)) (And.intro (And.intro True.intro True.intro) True.intro)) (And.intro (And.intro True.intro (And.intro (And.intro (And.intro True.intro (And.intro (And.intro (And.intro True.intro True.intro) (And.intro True.intro True.intro)) (And.intro (And.intro (And.intro (And.intro h_is_integer (And.intro True.intro (And.intro True.intro (And.intro True.intro True.intro)))) (And.intro True.intro True.intro)) True.intro) True.intro))) (And.intro (And.intro True.intro True.intro) True.intro)) True.intro)) (And.intro True.intro True.intro)))
def N_require_losses : List PySem.Str := ["model", "losses"]
theorem ck_require_losses : defCk N_require_losses ["model", "losses"] (topS 25) Lb.b_require_losses = true := by kernel_rfl
theorem lv_require_losses {L : Lk} (h_require_model : L.P "require_model" Lb.d_require_model) (h_are_valid_losses : L.P "are_valid_losses" Lb.d_are_valid_losses) (hE : ∀ x c, exN.lookup c = some x → L.E x c) (hQ : ∀ c c', (exN.lookup c).isSome = true → (exN.lookup c').isSome = true → L.Q c c') : LvSs L Lb.b_require_losses := (And.intro (And.intro h_require_model (And.intro True.intro True.intro)) (And.intro (And.intro (And.intro h_are_valid_losses (And.intro True.intro (And.intro True.intro True.intro))) (And.intro (And.intro (hE "InvalidLosses" 2 rfl) True.intro) True.intro)) True.intro))
def N_is_valid_rule : List PySem.Str := ["model", "losses", "candidate", "one"]
theorem ck_is_valid_rule : defCk N_is_valid_rule ["model", "losses", "candidate"] (topS 26) Lb.b_is_valid_rule = true := by kernel_rfl
theorem lv_is_valid_rule {L : Lk} (h_is_integer : L.P "is_integer" Lb.d_is_integer) : LvSs L Lb.b_is_valid_rule := (And.intro (And.intro (And.intro True.intro (And.intro (And.intro (And.intro True.intro True.intro) (And.intro (And.intro True.intro True.intro) True.intro)) True.intro)) (And.intro (And.intro True.intro True.intro) True.intro)) (And.intro (And.intro (And.intro (And.intro h_is_integer (And.intro True.intro (And.intro True.intro (And.intro (And.intro (And.intro True.intro True.intro) True.intro) True.intro)))) (And.intro True.intro True.intro)) True.intro) True.intro))
def N_require_rule : List PySem.Str := ["model", "losses", "rule"]
theorem ck_require_rule : defCk N_require_rule ["model", "losses", "rule"] (topS 27) Lb.b_require_rule = true := by kernel_rfl
theorem lv_require_rule {L : Lk} (h_require_losses : L.P "require_losses" Lb.d_require_losses) (h_is_valid_rule : L.P "is_valid_rule" Lb.d_is_valid_rule) (hE : ∀ x c, exN.lookup c = some x → L.E x c) (hQ : ∀ c c', (exN.lookup c).isSome = true → (exN.lookup c').isSome = true → L.Q c c') : LvSs L Lb.b_require_rule := (And.intro (And.intro h_require_losses (And.intro True.intro (And.intro True.intro True.intro))) (And.intro (And.intro (And.intro h_is_valid_rule (And.intro True.intro (And.intro True.intro (And.intro True.intro True.intro)))) (And.intro (And.intro (hE "InvalidRule" 3 rfl) True.intro) True.intro)) True.intro))
def N_is_valid_mixed : List PySem.Str := ["model", "losses", "candidate", "row"]
theorem ck_is_valid_mixed : defCk N_is_valid_mixed ["model", "losses", "candidate"] (topS 28) Lb.b_is_valid_mixed = true := by kernel_rfl
theorem lv_is_valid_mixed {L : Lk} (h_are_chances : L.P "are_chances" Lb.d_are_chances) : LvSs L Lb.b_is_valid_mixed := (And.intro (And.intro (And.intro True.intro (And.intro (And.intro (And.intro True.intro True.intro) (And.intro (And.intro True.intro True.intro) True.intro)) True.intro)) (And.intro (And.intro True.intro True.intro) True.intro)) (And.intro (And.intro (And.intro (And.intro h_are_chances (And.intro True.intro (And.intro (And.intro True.intro True.intro) (And.intro (And.intro True.intro True.intro) True.intro)))) (And.intro True.intro True.intro)) True.intro) True.intro))
def N_require_mixed : List PySem.Str := ["model", "losses", "mixed"]
theorem ck_require_mixed : defCk N_require_mixed ["model", "losses", "mixed"] (topS 29) Lb.b_require_mixed = true := by kernel_rfl
theorem lv_require_mixed {L : Lk} (h_require_losses : L.P "require_losses" Lb.d_require_losses) (h_is_valid_mixed : L.P "is_valid_mixed" Lb.d_is_valid_mixed) (hE : ∀ x c, exN.lookup c = some x → L.E x c) (hQ : ∀ c c', (exN.lookup c).isSome = true → (exN.lookup c').isSome = true → L.Q c c') : LvSs L Lb.b_require_mixed := (And.intro (And.intro h_require_losses (And.intro True.intro (And.intro True.intro True.intro))) (And.intro (And.intro (And.intro h_is_valid_mixed (And.intro True.intro (And.intro True.intro (And.intro True.intro True.intro)))) (And.intro (And.intro (hE "InvalidMixed" 4 rfl) True.intro) True.intro)) True.intro))
def N_mixed_of : List PySem.Str := ["losses", "rule", "action", "one"]
theorem ck_mixed_of : defCk N_mixed_of ["losses", "rule"] (topS 30) Lb.b_mixed_of = true := by kernel_rfl
theorem lv_mixed_of {L : Lk}  : LvSs L Lb.b_mixed_of := (And.intro (And.intro (And.intro (And.intro (And.intro (And.intro (And.intro (And.intro True.intro True.intro) True.intro) (And.intro True.intro True.intro)) (And.intro (And.intro True.intro True.intro) True.intro)) True.intro) (And.intro True.intro True.intro)) True.intro) True.intro)
def N_as_mixed : List PySem.Str := ["model", "losses", "rule"]
theorem ck_as_mixed : defCk N_as_mixed ["model", "losses", "rule"] (topS 31) Lb.b_as_mixed = true := by kernel_rfl
theorem lv_as_mixed {L : Lk} (h_require_rule : L.P "require_rule" Lb.d_require_rule) (h_mixed_of : L.P "mixed_of" Lb.d_mixed_of) : LvSs L Lb.b_as_mixed := (And.intro (And.intro h_require_rule (And.intro True.intro (And.intro True.intro (And.intro True.intro True.intro)))) (And.intro (And.intro h_mixed_of (And.intro True.intro (And.intro True.intro True.intro))) True.intro))
def N_mean_losses : List PySem.Str := ["losses", "state", "row", "loss"]
theorem ck_mean_losses : defCk N_mean_losses ["losses", "state", "row"] (topS 33) Lb.b_mean_losses = true := by kernel_rfl
theorem lv_mean_losses {L : Lk} (h_product_sum : L.P "product_sum" Lb.d_product_sum) (h_whole : L.P "whole" Lb.d_whole) : LvSs L Lb.b_mean_losses := (And.intro (And.intro h_product_sum (And.intro (And.intro (And.intro h_whole (And.intro (And.intro True.intro True.intro) True.intro)) (And.intro True.intro True.intro)) (And.intro True.intro True.intro))) True.intro)
def N_risks_of : List PySem.Str := ["model", "losses", "mixed", "found", "state", "chances", "parts", "own", "row"]
theorem ck_risks_of : defCk N_risks_of ["model", "losses", "mixed"] (topS 34) Lb.b_risks_of = true := by kernel_rfl
theorem lv_risks_of {L : Lk} (h_times : L.P "times" Lb.d_times) (h_total_of : L.P "total_of" Lb.d_total_of) (h_mean_losses : L.P "mean_losses" Lb.d_mean_losses) : LvSs L Lb.b_risks_of := (And.intro (And.intro True.intro True.intro) (And.intro (And.intro True.intro (And.intro (And.intro True.intro (And.intro (And.intro h_times (And.intro True.intro (And.intro (And.intro h_mean_losses (And.intro True.intro (And.intro True.intro (And.intro True.intro True.intro)))) True.intro))) (And.intro (And.intro True.intro True.intro) True.intro))) (And.intro (And.intro True.intro (And.intro (And.intro h_total_of (And.intro True.intro True.intro)) True.intro)) True.intro))) (And.intro (And.intro True.intro True.intro) True.intro)))
def N_least_of : List PySem.Str := ["fractions", "found", "one"]
theorem ck_least_of : defCk N_least_of ["fractions"] (topS 35) Lb.b_least_of = true := by kernel_rfl
theorem lv_least_of {L : Lk} (h_less : L.P "less" Lb.d_less) : LvSs L Lb.b_least_of := (And.intro (And.intro True.intro (And.intro True.intro True.intro)) (And.intro (And.intro True.intro (And.intro (And.intro (And.intro h_less (And.intro True.intro (And.intro True.intro True.intro))) (And.intro (And.intro (And.intro True.intro True.intro) True.intro) True.intro)) True.intro)) (And.intro True.intro True.intro)))
def N_is_valid_belief : List PySem.Str := ["model", "candidate"]
theorem ck_is_valid_belief : defCk N_is_valid_belief ["model", "candidate"] (topS 37) Lb.b_is_valid_belief = true := by kernel_rfl
theorem lv_is_valid_belief {L : Lk} (h_are_chances : L.P "are_chances" Lb.d_are_chances) : LvSs L Lb.b_is_valid_belief := (And.intro (And.intro h_are_chances (And.intro True.intro (And.intro (And.intro True.intro True.intro) (And.intro (And.intro True.intro True.intro) True.intro)))) True.intro)
def N_is_belief : List PySem.Str := ["model", "candidate"]
theorem ck_is_belief : defCk N_is_belief ["model", "candidate"] (topS 38) Lb.b_is_belief = true := by kernel_rfl
theorem lv_is_belief {L : Lk} (h_require_model : L.P "require_model" Lb.d_require_model) (h_is_valid_belief : L.P "is_valid_belief" Lb.d_is_valid_belief) : LvSs L Lb.b_is_belief := (And.intro (And.intro h_require_model (And.intro True.intro True.intro)) (And.intro (And.intro h_is_valid_belief (And.intro True.intro (And.intro True.intro True.intro))) True.intro))
def N_require_belief : List PySem.Str := ["model", "belief"]
theorem ck_require_belief : defCk N_require_belief ["model", "belief"] (topS 39) Lb.b_require_belief = true := by kernel_rfl
theorem lv_require_belief {L : Lk} (h_is_valid_belief : L.P "is_valid_belief" Lb.d_is_valid_belief) (hE : ∀ x c, exN.lookup c = some x → L.E x c) (hQ : ∀ c c', (exN.lookup c).isSome = true → (exN.lookup c').isSome = true → L.Q c c') : LvSs L Lb.b_require_belief := (And.intro (And.intro (And.intro h_is_valid_belief (And.intro True.intro (And.intro True.intro True.intro))) (And.intro (And.intro (hE "InvalidBelief" 5 rfl) True.intro) True.intro)) True.intro)
def N_require_observation : List PySem.Str := ["model", "observation"]
theorem ck_require_observation : defCk N_require_observation ["model", "observation"] (topS 40) Lb.b_require_observation = true := by kernel_rfl
theorem lv_require_observation {L : Lk} (h_is_integer : L.P "is_integer" Lb.d_is_integer) (hE : ∀ x c, exN.lookup c = some x → L.E x c) (hQ : ∀ c c', (exN.lookup c).isSome = true → (exN.lookup c').isSome = true → L.Q c c') : LvSs L Lb.b_require_observation := (And.intro (And.intro (And.intro h_is_integer (And.intro True.intro (And.intro True.intro (And.intro (And.intro (And.intro (And.intro True.intro True.intro) True.intro) True.intro) True.intro)))) (And.intro (And.intro (hE "InvalidObservation" 6 rfl) True.intro) True.intro)) True.intro)
def N_shares : List PySem.Str := ["model", "belief", "observation", "own", "row"]
theorem ck_shares : defCk N_shares ["model", "belief", "observation"] (topS 41) Lb.b_shares = true := by kernel_rfl
theorem lv_shares {L : Lk} (h_times : L.P "times" Lb.d_times) : LvSs L Lb.b_shares := (And.intro (And.intro (And.intro h_times (And.intro True.intro (And.intro (And.intro True.intro True.intro) True.intro))) (And.intro (And.intro True.intro True.intro) True.intro)) True.intro)
def N_require_all : List PySem.Str := ["model", "belief", "observation"]
theorem ck_require_all : defCk N_require_all ["model", "belief", "observation"] (topS 42) Lb.b_require_all = true := by kernel_rfl
theorem lv_require_all {L : Lk} (h_require_model : L.P "require_model" Lb.d_require_model) (h_require_belief : L.P "require_belief" Lb.d_require_belief) (h_require_observation : L.P "require_observation" Lb.d_require_observation) : LvSs L Lb.b_require_all := (And.intro (And.intro h_require_model (And.intro True.intro True.intro)) (And.intro (And.intro h_require_belief (And.intro True.intro (And.intro True.intro True.intro))) (And.intro (And.intro h_require_observation (And.intro True.intro (And.intro True.intro True.intro))) True.intro)))
def N_chance : List PySem.Str := ["model", "belief", "observation"]
theorem ck_chance : defCk N_chance ["model", "belief", "observation"] (topS 43) Lb.b_chance = true := by kernel_rfl
theorem lv_chance {L : Lk} (h_require_all : L.P "require_all" Lb.d_require_all) (h_total_of : L.P "total_of" Lb.d_total_of) (h_shares : L.P "shares" Lb.d_shares) : LvSs L Lb.b_chance := (And.intro (And.intro h_require_all (And.intro True.intro (And.intro True.intro (And.intro True.intro True.intro)))) (And.intro (And.intro h_total_of (And.intro (And.intro h_shares (And.intro True.intro (And.intro True.intro (And.intro True.intro True.intro)))) True.intro)) True.intro))
def N_belief_after : List PySem.Str := ["model", "belief", "observation", "rows", "own", "one"]
theorem ck_belief_after : defCk N_belief_after ["model", "belief", "observation"] (topS 44) Lb.b_belief_after = true := by kernel_rfl
theorem lv_belief_after {L : Lk} (h_shares : L.P "shares" Lb.d_shares) (h_total_of : L.P "total_of" Lb.d_total_of) (h_over : L.P "over" Lb.d_over) : LvSs L Lb.b_belief_after := (And.intro (And.intro True.intro (And.intro h_shares (And.intro True.intro (And.intro True.intro (And.intro True.intro True.intro))))) (And.intro (And.intro True.intro (And.intro h_total_of (And.intro True.intro True.intro))) (And.intro (And.intro (And.intro (And.intro True.intro True.intro) True.intro) (And.intro True.intro (And.intro (And.intro (And.intro h_over (And.intro True.intro (And.intro True.intro True.intro))) (And.intro True.intro True.intro)) True.intro))) True.intro)))
def N_after : List PySem.Str := ["model", "belief", "observation"]
theorem ck_after : defCk N_after ["model", "belief", "observation"] (topS 45) Lb.b_after = true := by kernel_rfl
theorem lv_after {L : Lk} (h_require_all : L.P "require_all" Lb.d_require_all) (h_belief_after : L.P "belief_after" Lb.d_belief_after) : LvSs L Lb.b_after := (And.intro (And.intro h_require_all (And.intro True.intro (And.intro True.intro (And.intro True.intro True.intro)))) (And.intro (And.intro h_belief_after (And.intro True.intro (And.intro True.intro (And.intro True.intro True.intro)))) True.intro))
def N_find_actions : List PySem.Str := ["losses", "weights", "sums", "least", "loss", "action", "own", "one"]
theorem ck_find_actions : defCk N_find_actions ["losses", "weights"] (topS 46) Lb.b_find_actions = true := by kernel_rfl
theorem lv_find_actions {L : Lk} (h_least_of : L.P "least_of" Lb.d_least_of) (h_product_sum : L.P "product_sum" Lb.d_product_sum) (h_whole : L.P "whole" Lb.d_whole) : LvSs L Lb.b_find_actions := (And.intro (And.intro True.intro (And.intro (And.intro h_product_sum (And.intro (And.intro (And.intro h_whole (And.intro True.intro True.intro)) (And.intro True.intro True.intro)) (And.intro True.intro True.intro))) (And.intro True.intro True.intro))) (And.intro (And.intro True.intro (And.intro h_least_of (And.intro True.intro True.intro))) (And.intro (And.intro True.intro (And.intro True.intro (And.intro True.intro True.intro))) True.intro)))
def N_best_actions : List PySem.Str := ["model", "losses", "belief", "observation"]
theorem ck_best_actions : defCk N_best_actions ["model", "losses", "belief", "observation"] (topS 47) Lb.b_best_actions = true := by kernel_rfl
theorem lv_best_actions {L : Lk} (h_require_losses : L.P "require_losses" Lb.d_require_losses) (h_require_belief : L.P "require_belief" Lb.d_require_belief) (h_require_observation : L.P "require_observation" Lb.d_require_observation) (h_find_actions : L.P "find_actions" Lb.d_find_actions) (h_shares : L.P "shares" Lb.d_shares) : LvSs L Lb.b_best_actions := (And.intro (And.intro h_require_losses (And.intro True.intro (And.intro True.intro True.intro))) (And.intro (And.intro h_require_belief (And.intro True.intro (And.intro True.intro True.intro))) (And.intro (And.intro h_require_observation (And.intro True.intro (And.intro True.intro True.intro))) (And.intro (And.intro h_find_actions (And.intro True.intro (And.intro (And.intro h_shares (And.intro True.intro (And.intro True.intro (And.intro True.intro True.intro)))) True.intro))) True.intro))))
def N_mean_risk : List PySem.Str := ["model", "losses", "belief", "mixed"]
theorem ck_mean_risk : defCk N_mean_risk ["model", "losses", "belief", "mixed"] (topS 48) Lb.b_mean_risk = true := by kernel_rfl
theorem lv_mean_risk {L : Lk} (h_require_losses : L.P "require_losses" Lb.d_require_losses) (h_require_belief : L.P "require_belief" Lb.d_require_belief) (h_require_mixed : L.P "require_mixed" Lb.d_require_mixed) (h_product_sum : L.P "product_sum" Lb.d_product_sum) (h_risks_of : L.P "risks_of" Lb.d_risks_of) : LvSs L Lb.b_mean_risk := (And.intro (And.intro h_require_losses (And.intro True.intro (And.intro True.intro True.intro))) (And.intro (And.intro h_require_belief (And.intro True.intro (And.intro True.intro True.intro))) (And.intro (And.intro h_require_mixed (And.intro True.intro (And.intro True.intro (And.intro True.intro True.intro)))) (And.intro (And.intro h_product_sum (And.intro True.intro (And.intro (And.intro h_risks_of (And.intro True.intro (And.intro True.intro (And.intro True.intro True.intro)))) True.intro))) True.intro))))
def N_find_best : List PySem.Str := ["model", "losses", "belief", "spot"]
theorem ck_find_best : defCk N_find_best ["model", "losses", "belief"] (topS 49) Lb.b_find_best = true := by kernel_rfl
theorem lv_find_best {L : Lk} (h_find_actions : L.P "find_actions" Lb.d_find_actions) (h_shares : L.P "shares" Lb.d_shares) : LvSs L Lb.b_find_best := (And.intro (And.intro (And.intro (And.intro (And.intro h_find_actions (And.intro True.intro (And.intro (And.intro h_shares (And.intro True.intro (And.intro True.intro (And.intro True.intro True.intro)))) True.intro))) True.intro) (And.intro (And.intro (And.intro True.intro True.intro) True.intro) True.intro)) True.intro) True.intro)
def N_require_both : List PySem.Str := ["model", "losses", "belief"]
theorem ck_require_both : defCk N_require_both ["model", "losses", "belief"] (topS 50) Lb.b_require_both = true := by kernel_rfl
theorem lv_require_both {L : Lk} (h_require_losses : L.P "require_losses" Lb.d_require_losses) (h_require_belief : L.P "require_belief" Lb.d_require_belief) : LvSs L Lb.b_require_both := (And.intro (And.intro h_require_losses (And.intro True.intro (And.intro True.intro True.intro))) (And.intro (And.intro h_require_belief (And.intro True.intro (And.intro True.intro True.intro))) True.intro))
def N_least_of_belief : List PySem.Str := ["model", "losses", "belief"]
theorem ck_least_of_belief : defCk N_least_of_belief ["model", "losses", "belief"] (topS 51) Lb.b_least_of_belief = true := by kernel_rfl
theorem lv_least_of_belief {L : Lk} (h_product_sum : L.P "product_sum" Lb.d_product_sum) (h_risks_of : L.P "risks_of" Lb.d_risks_of) (h_mixed_of : L.P "mixed_of" Lb.d_mixed_of) (h_find_best : L.P "find_best" Lb.d_find_best) : LvSs L Lb.b_least_of_belief := (And.intro (And.intro h_product_sum (And.intro True.intro (And.intro (And.intro h_risks_of (And.intro True.intro (And.intro True.intro (And.intro (And.intro h_mixed_of (And.intro True.intro (And.intro (And.intro h_find_best (And.intro True.intro (And.intro True.intro (And.intro True.intro True.intro)))) True.intro))) True.intro)))) True.intro))) True.intro)
def N_least_risk : List PySem.Str := ["model", "losses", "belief"]
theorem ck_least_risk : defCk N_least_risk ["model", "losses", "belief"] (topS 52) Lb.b_least_risk = true := by kernel_rfl
theorem lv_least_risk {L : Lk} (h_require_both : L.P "require_both" Lb.d_require_both) (h_least_of_belief : L.P "least_of_belief" Lb.d_least_of_belief) : LvSs L Lb.b_least_risk := (And.intro (And.intro h_require_both (And.intro True.intro (And.intro True.intro (And.intro True.intro True.intro)))) (And.intro (And.intro h_least_of_belief (And.intro True.intro (And.intro True.intro (And.intro True.intro True.intro)))) True.intro))
def N_best_rule : List PySem.Str := ["model", "losses", "belief"]
theorem ck_best_rule : defCk N_best_rule ["model", "losses", "belief"] (topS 53) Lb.b_best_rule = true := by kernel_rfl
theorem lv_best_rule {L : Lk} (h_require_both : L.P "require_both" Lb.d_require_both) (h_find_best : L.P "find_best" Lb.d_find_best) : LvSs L Lb.b_best_rule := (And.intro (And.intro h_require_both (And.intro True.intro (And.intro True.intro (And.intro True.intro True.intro)))) (And.intro (And.intro h_find_best (And.intro True.intro (And.intro True.intro (And.intro True.intro True.intro)))) True.intro))
def N__law_draw : List PySem.Str := ["_law_script", "_law_state", "_law_many", "_law_k", "_law_cell", "_law_digits", "_law_number", "_law_more"]
theorem ck__law_draw : defCk N__law_draw ["_law_script", "_law_state", "_law_many"] (topS 55) Lb.b__law_draw = true := by kernel_rfl
theorem lv__law_draw {L : Lk}  : LvSs L Lb.b__law_draw := (And.intro (And.intro True.intro (And.intro (And.intro (And.intro True.intro (And.intro (And.intro (And.intro (And.intro (And.intro True.intro True.intro) (And.intro True.intro True.intro)) (And.intro True.intro True.intro)) True.intro) True.intro)) True.intro) True.intro)) (And.intro (And.intro True.intro (And.intro True.intro True.intro)) (And.intro (And.intro True.intro (And.intro True.intro True.intro)) (And.intro (And.intro True.intro (And.intro True.intro (And.intro (And.intro True.intro (And.intro True.intro (And.intro True.intro True.intro))) True.intro))) (And.intro (And.intro True.intro (And.intro (And.intro True.intro True.intro) True.intro)) (And.intro (And.intro (And.intro True.intro True.intro) (And.intro (And.intro True.intro True.intro) True.intro)) (And.intro (And.intro True.intro (And.intro (And.intro (And.intro True.intro (And.intro True.intro True.intro)) (And.intro True.intro True.intro)) True.intro)) (And.intro (And.intro True.intro (And.intro (And.intro (And.intro (And.intro True.intro True.intro) True.intro) True.intro) True.intro)) (And.intro (And.intro True.intro (And.intro (And.intro (And.intro (And.intro True.intro True.intro) True.intro) True.intro) True.intro)) (And.intro (And.intro (And.intro (And.intro (And.intro True.intro True.intro) True.intro) (And.intro True.intro True.intro)) True.intro) True.intro))))))))))
def N__law_fraction : List PySem.Str := ["_law_top", "_law_bottom", "_law_sign", "_law_one", "_law_other"]
theorem ck__law_fraction : defCk N__law_fraction ["_law_top", "_law_bottom"] (topS 56) Lb.b__law_fraction = true := by kernel_rfl
theorem lv__law_fraction {L : Lk}  : LvSs L Lb.b__law_fraction := (And.intro (And.intro (And.intro True.intro True.intro) (And.intro (And.intro True.intro True.intro) True.intro)) (And.intro (And.intro True.intro (And.intro (And.intro True.intro (And.intro (And.intro True.intro True.intro) True.intro)) True.intro)) (And.intro (And.intro True.intro (And.intro (And.intro True.intro True.intro) (And.intro True.intro True.intro))) (And.intro (And.intro (And.intro (And.intro True.intro True.intro) True.intro) (And.intro (And.intro (And.intro True.intro True.intro) True.intro) True.intro)) True.intro))))
def N__law_plus : List PySem.Str := ["_law_one", "_law_other"]
theorem ck__law_plus : defCk N__law_plus ["_law_one", "_law_other"] (topS 57) Lb.b__law_plus = true := by kernel_rfl
theorem lv__law_plus {L : Lk} (h__law_fraction : L.P "_law_fraction" Lb.d__law_fraction) : LvSs L Lb.b__law_plus := (And.intro (And.intro h__law_fraction (And.intro (And.intro (And.intro (And.intro True.intro True.intro) (And.intro True.intro True.intro)) (And.intro (And.intro True.intro True.intro) (And.intro True.intro True.intro))) (And.intro (And.intro (And.intro True.intro True.intro) (And.intro True.intro True.intro)) True.intro))) True.intro)
def N__law_times : List PySem.Str := ["_law_one", "_law_other"]
theorem ck__law_times : defCk N__law_times ["_law_one", "_law_other"] (topS 58) Lb.b__law_times = true := by kernel_rfl
theorem lv__law_times {L : Lk} (h__law_fraction : L.P "_law_fraction" Lb.d__law_fraction) : LvSs L Lb.b__law_times := (And.intro (And.intro h__law_fraction (And.intro (And.intro (And.intro True.intro True.intro) (And.intro True.intro True.intro)) (And.intro (And.intro (And.intro True.intro True.intro) (And.intro True.intro True.intro)) True.intro))) True.intro)
def N__law_below : List PySem.Str := ["_law_one", "_law_other"]
theorem ck__law_below : defCk N__law_below ["_law_one", "_law_other"] (topS 59) Lb.b__law_below = true := by kernel_rfl
theorem lv__law_below {L : Lk}  : LvSs L Lb.b__law_below := (And.intro (And.intro (And.intro (And.intro True.intro True.intro) (And.intro True.intro True.intro)) (And.intro (And.intro True.intro True.intro) (And.intro True.intro True.intro))) True.intro)
def N__law_spread : List PySem.Str := ["_law_weights", "_law_one"]
theorem ck__law_spread : defCk N__law_spread ["_law_weights"] (topS 60) Lb.b__law_spread = true := by kernel_rfl
theorem lv__law_spread {L : Lk} (h__law_fraction : L.P "_law_fraction" Lb.d__law_fraction) : LvSs L Lb.b__law_spread := (And.intro (And.intro (And.intro (And.intro h__law_fraction (And.intro True.intro (And.intro (And.intro True.intro True.intro) True.intro))) (And.intro True.intro True.intro)) True.intro) True.intro)
def N__law_chances : List PySem.Str := ["_law_script", "_law_state", "_law_many", "_law_weights", "_law_step"]
theorem ck__law_chances : defCk N__law_chances ["_law_script", "_law_state", "_law_many"] (topS 61) Lb.b__law_chances = true := by kernel_rfl
theorem lv__law_chances {L : Lk} (h__law_spread : L.P "_law_spread" Lb.d__law_spread) (h__law_draw : L.P "_law_draw" Lb.d__law_draw) : LvSs L Lb.b__law_chances := (And.intro (And.intro True.intro (And.intro (And.intro h__law_draw (And.intro True.intro (And.intro True.intro (And.intro True.intro True.intro)))) (And.intro True.intro True.intro))) (And.intro (And.intro (And.intro (And.intro True.intro True.intro) True.intro) (And.intro (And.intro (And.intro (And.intro True.intro True.intro) True.intro) True.intro) True.intro)) (And.intro (And.intro h__law_spread (And.intro True.intro True.intro)) True.intro)))
def N__law_model : List PySem.Str := ["_law_script", "_law_state", "_law_most", "_law_table", "_law_step", "_law_spot", "_law_many", "_law_states", "_law_row"]
theorem ck__law_model : defCk N__law_model ["_law_script", "_law_state", "_law_most"] (topS 62) Lb.b__law_model = true := by kernel_rfl
theorem lv__law_model {L : Lk} (h__law_draw : L.P "_law_draw" Lb.d__law_draw) (h__law_spread : L.P "_law_spread" Lb.d__law_spread) : LvSs L Lb.b__law_model := (And.intro (And.intro (And.intro True.intro (And.intro h__law_draw (And.intro True.intro (And.intro True.intro (And.intro True.intro True.intro))))) (And.intro (And.intro True.intro (And.intro h__law_draw (And.intro True.intro (And.intro True.intro (And.intro True.intro True.intro))))) True.intro)) (And.intro (And.intro True.intro True.intro) (And.intro (And.intro True.intro (And.intro (And.intro True.intro (And.intro (And.intro (And.intro h__law_draw (And.intro True.intro (And.intro True.intro (And.intro True.intro True.intro)))) (And.intro True.intro True.intro)) True.intro)) True.intro)) (And.intro (And.intro True.intro (And.intro (And.intro (And.intro (And.intro (And.intro True.intro True.intro) True.intro) True.intro) (And.intro (And.intro (And.intro (And.intro (And.intro True.intro True.intro) True.intro) True.intro) True.intro) True.intro)) True.intro)) (And.intro (And.intro True.intro (And.intro (And.intro (And.intro (And.intro True.intro (And.intro True.intro (And.intro (And.intro True.intro True.intro) True.intro))) True.intro) (And.intro (And.intro (And.intro (And.intro (And.intro True.intro True.intro) True.intro) True.intro) True.intro) True.intro)) True.intro)) (And.intro (And.intro (And.intro (And.intro h__law_spread (And.intro True.intro True.intro)) (And.intro True.intro True.intro)) True.intro) True.intro))))))
def N__law_losses : List PySem.Str := ["_law_script", "_law_state", "_law_model_here", "_law_rows", "_law_action", "_law_row"]
theorem ck__law_losses : defCk N__law_losses ["_law_script", "_law_state", "_law_model_here"] (topS 63) Lb.b__law_losses = true := by kernel_rfl
theorem lv__law_losses {L : Lk} (h__law_draw : L.P "_law_draw" Lb.d__law_draw) : LvSs L Lb.b__law_losses := (And.intro (And.intro True.intro True.intro) (And.intro (And.intro (And.intro True.intro (And.intro h__law_draw (And.intro True.intro (And.intro True.intro (And.intro True.intro True.intro))))) (And.intro (And.intro True.intro (And.intro (And.intro (And.intro (And.intro (And.intro h__law_draw (And.intro True.intro (And.intro True.intro (And.intro True.intro True.intro)))) True.intro) (And.intro True.intro True.intro)) True.intro) True.intro)) True.intro)) (And.intro (And.intro True.intro True.intro) True.intro)))
def N__law_pure : List PySem.Str := ["_law_losses_here", "_law_rule", "_law_action", "_law_one"]
theorem ck__law_pure : defCk N__law_pure ["_law_losses_here", "_law_rule"] (topS 64) Lb.b__law_pure = true := by kernel_rfl
theorem lv__law_pure {L : Lk}  : LvSs L Lb.b__law_pure := (And.intro (And.intro (And.intro (And.intro (And.intro (And.intro (And.intro (And.intro True.intro True.intro) True.intro) (And.intro True.intro True.intro)) (And.intro (And.intro True.intro True.intro) True.intro)) True.intro) (And.intro True.intro True.intro)) True.intro) True.intro)
def N__law_mixed : List PySem.Str := ["_law_script", "_law_state", "_law_model_here", "_law_losses_here", "_law_spot"]
theorem ck__law_mixed : defCk N__law_mixed ["_law_script", "_law_state", "_law_model_here", "_law_losses_here"] (topS 65) Lb.b__law_mixed = true := by kernel_rfl
theorem lv__law_mixed {L : Lk} (h__law_draw : L.P "_law_draw" Lb.d__law_draw) (h__law_pure : L.P "_law_pure" Lb.d__law_pure) (h__law_chances : L.P "_law_chances" Lb.d__law_chances) : LvSs L Lb.b__law_mixed := (And.intro (And.intro (And.intro h__law_draw (And.intro True.intro (And.intro True.intro (And.intro True.intro True.intro)))) (And.intro (And.intro (And.intro h__law_pure (And.intro True.intro (And.intro (And.intro (And.intro h__law_draw (And.intro True.intro (And.intro True.intro (And.intro (And.intro True.intro True.intro) True.intro)))) (And.intro (And.intro True.intro True.intro) True.intro)) True.intro))) True.intro) True.intro)) (And.intro (And.intro (And.intro (And.intro h__law_chances (And.intro True.intro (And.intro True.intro (And.intro (And.intro True.intro True.intro) True.intro)))) (And.intro (And.intro True.intro True.intro) True.intro)) True.intro) True.intro))
def N__law_only_best : List PySem.Str := ["_law_model_here", "_law_losses_here", "_law_belief", "_law_mixed_here", "_law_spot", "_law_some", "_law_action"]
theorem ck__law_only_best : defCk N__law_only_best ["_law_model_here", "_law_losses_here", "_law_belief", "_law_mixed_here"] (topS 66) Lb.b__law_only_best = true := by kernel_rfl
theorem lv__law_only_best {L : Lk} (h_best_actions : L.P "best_actions" Lb.d_best_actions) : LvSs L Lb.b__law_only_best := (And.intro (And.intro (And.intro (And.intro True.intro True.intro) True.intro) (And.intro (And.intro True.intro (And.intro h_best_actions (And.intro True.intro (And.intro True.intro (And.intro True.intro (And.intro True.intro True.intro)))))) (And.intro (And.intro (And.intro True.intro (And.intro (And.intro True.intro True.intro) (And.intro (And.intro (And.intro (And.intro (And.intro True.intro True.intro) True.intro) True.intro) True.intro) (And.intro (And.intro True.intro True.intro) True.intro)))) (And.intro (And.intro True.intro True.intro) True.intro)) True.intro))) (And.intro True.intro True.intro))
def N__law_adds_up : List PySem.Str := ["_law_model_here", "_law_belief", "_law_spot", "_law_sums", "_law_many", "_law_own", "_law_later", "_law_one", "_law_other"]
theorem ck__law_adds_up : defCk N__law_adds_up ["_law_model_here", "_law_belief"] (topS 67) Lb.b__law_adds_up = true := by kernel_rfl
theorem lv__law_adds_up {L : Lk} (h__law_plus : L.P "_law_plus" Lb.d__law_plus) (h_chance : L.P "chance" Lb.d_chance) (h_after : L.P "after" Lb.d_after) (h_is_belief : L.P "is_belief" Lb.d_is_belief) (h__law_times : L.P "_law_times" Lb.d__law_times) : LvSs L Lb.b__law_adds_up := (And.intro (And.intro (And.intro (And.intro (And.intro True.intro (And.intro True.intro True.intro)) True.intro) (And.intro True.intro True.intro)) (And.intro (And.intro True.intro (And.intro True.intro True.intro)) True.intro)) (And.intro (And.intro (And.intro (And.intro True.intro True.intro) True.intro) (And.intro (And.intro (And.intro True.intro (And.intro True.intro True.intro)) (And.intro (And.intro h_chance (And.intro True.intro (And.intro True.intro (And.intro True.intro True.intro)))) (And.intro (And.intro h_after (And.intro True.intro (And.intro True.intro (And.intro True.intro True.intro)))) True.intro))) (And.intro (And.intro True.intro (And.intro h__law_plus (And.intro True.intro (And.intro True.intro True.intro)))) (And.intro (And.intro (And.intro (And.intro (And.intro True.intro True.intro) (And.intro True.intro (And.intro True.intro (And.intro True.intro True.intro)))) (And.intro (And.intro (And.intro True.intro True.intro) (And.intro (And.intro h_is_belief (And.intro True.intro (And.intro True.intro True.intro))) True.intro)) True.intro)) (And.intro (And.intro True.intro True.intro) True.intro)) (And.intro (And.intro (And.intro True.intro True.intro) (And.intro (And.intro (And.intro True.intro (And.intro (And.intro h__law_plus (And.intro True.intro (And.intro (And.intro h__law_times (And.intro True.intro (And.intro True.intro True.intro))) True.intro))) (And.intro (And.intro True.intro True.intro) True.intro))) True.intro) True.intro)) True.intro))))) (And.intro (And.intro (And.intro True.intro (And.intro True.intro (And.intro True.intro True.intro))) (And.intro (And.intro (And.intro True.intro True.intro) True.intro) True.intro)) True.intro)))
def N_law : List PySem.Str := ["_law_script", "_law_state", "_law_k", "_law_model_here", "_law_least", "_law_best", "_law_mixed_here", "_law_losses_here", "_law_belief", "_law_own", "_law_fine"]
theorem ck_law : defCk N_law ["_law_script"] (topS 68) Lb.b_law_k06 = true := by kernel_rfl
theorem lv_law {L : Lk} (h__law_model : L.P "_law_model" Lb.d__law_model) (h_least_risk : L.P "least_risk" Lb.d_least_risk) (h_as_mixed : L.P "as_mixed" Lb.d_as_mixed) (h__law_losses : L.P "_law_losses" Lb.d__law_losses) (h__law_chances : L.P "_law_chances" Lb.d__law_chances) (h__law_adds_up : L.P "_law_adds_up" Lb.d__law_adds_up) (h_best_rule : L.P "best_rule" Lb.d_best_rule) (h__law_mixed : L.P "_law_mixed" Lb.d__law_mixed) (h_mean_risk : L.P "mean_risk" Lb.d_mean_risk) (h__law_only_best : L.P "_law_only_best" Lb.d__law_only_best) (h__law_below : L.P "_law_below" Lb.d__law_below) : LvSs L Lb.b_law_k06 := (And.intro (And.intro True.intro True.intro) (And.intro (And.intro True.intro (And.intro (And.intro True.intro (And.intro h__law_model (And.intro True.intro (And.intro True.intro (And.intro True.intro True.intro))))) (And.intro (And.intro (And.intro h__law_losses (And.intro True.intro (And.intro True.intro (And.intro True.intro True.intro)))) (And.intro (And.intro h__law_chances (And.intro True.intro (And.intro True.intro (And.intro (And.intro True.intro True.intro) True.intro)))) True.intro)) (And.intro (And.intro (And.intro h__law_adds_up (And.intro True.intro (And.intro True.intro True.intro))) (And.intro (And.intro True.intro True.intro) True.intro)) (And.intro (And.intro True.intro (And.intro h_least_risk (And.intro True.intro (And.intro True.intro (And.intro True.intro True.intro))))) (And.intro (And.intro True.intro (And.intro h_as_mixed (And.intro True.intro (And.intro True.intro (And.intro (And.intro h_best_rule (And.intro True.intro (And.intro True.intro (And.intro True.intro True.intro)))) True.intro))))) (And.intro (And.intro (And.intro True.intro (And.intro (And.intro h__law_mixed (And.intro True.intro (And.intro True.intro (And.intro True.intro (And.intro True.intro True.intro))))) (And.intro (And.intro h__law_mixed (And.intro True.intro (And.intro True.intro (And.intro True.intro (And.intro True.intro True.intro))))) True.intro))) (And.intro (And.intro (And.intro h_mean_risk (And.intro True.intro (And.intro True.intro (And.intro True.intro (And.intro True.intro True.intro))))) (And.intro (And.intro h__law_only_best (And.intro True.intro (And.intro True.intro (And.intro True.intro (And.intro True.intro True.intro))))) True.intro)) (And.intro (And.intro (And.intro (And.intro h__law_below (And.intro True.intro (And.intro True.intro True.intro))) (And.intro (And.intro (And.intro True.intro True.intro) True.intro) True.intro)) (And.intro (And.intro True.intro True.intro) True.intro)) True.intro))) (And.intro (And.intro (And.intro (And.intro h_mean_risk (And.intro True.intro (And.intro True.intro (And.intro True.intro (And.intro True.intro True.intro))))) True.intro) (And.intro (And.intro True.intro True.intro) True.intro)) True.intro)))))))) (And.intro True.intro True.intro)))
structure Tab (K : PySem.W.Frag) (mg : PySem.Str → Option Value) (xa : Nat → Addr) : Prop where
  bts : ∀ y ∈ bNames, mg y = none
  D_common_divisor : DefAt K mg "common_divisor" (topS 9) ["one", "other"]
  D_lowest_terms : DefAt K mg "lowest_terms" (topS 10) ["top", "bottom"]
  D_is_fraction : DefAt K mg "is_fraction" (topS 11) ["candidate"]
  D_plus : DefAt K mg "plus" (topS 12) ["one", "other"]
  D_times : DefAt K mg "times" (topS 13) ["one", "other"]
  D_over : DefAt K mg "over" (topS 14) ["one", "other"]
  D_less : DefAt K mg "less" (topS 15) ["one", "other"]
  D_total_of : DefAt K mg "total_of" (topS 16) ["fractions"]
  D_whole : DefAt K mg "whole" (topS 17) ["number"]
  D_product_sum : DefAt K mg "product_sum" (topS 18) ["left", "right"]
  D_is_integer : DefAt K mg "is_integer" (topS 20) ["candidate", "least", "most"]
  D_are_chances : DefAt K mg "are_chances" (topS 21) ["candidate", "least", "most"]
  D_is_model : DefAt K mg "is_model" (topS 22) ["candidate"]
  D_require_model : DefAt K mg "require_model" (topS 23) ["model"]
  D_are_valid_losses : DefAt K mg "are_valid_losses" (topS 24) ["model", "candidate"]
  D_require_losses : DefAt K mg "require_losses" (topS 25) ["model", "losses"]
  D_is_valid_rule : DefAt K mg "is_valid_rule" (topS 26) ["model", "losses", "candidate"]
  D_require_rule : DefAt K mg "require_rule" (topS 27) ["model", "losses", "rule"]
  D_is_valid_mixed : DefAt K mg "is_valid_mixed" (topS 28) ["model", "losses", "candidate"]
  D_require_mixed : DefAt K mg "require_mixed" (topS 29) ["model", "losses", "mixed"]
  D_mixed_of : DefAt K mg "mixed_of" (topS 30) ["losses", "rule"]
  D_as_mixed : DefAt K mg "as_mixed" (topS 31) ["model", "losses", "rule"]
  D_mean_losses : DefAt K mg "mean_losses" (topS 33) ["losses", "state", "row"]
  D_risks_of : DefAt K mg "risks_of" (topS 34) ["model", "losses", "mixed"]
  D_least_of : DefAt K mg "least_of" (topS 35) ["fractions"]
  D_is_valid_belief : DefAt K mg "is_valid_belief" (topS 37) ["model", "candidate"]
  D_is_belief : DefAt K mg "is_belief" (topS 38) ["model", "candidate"]
  D_require_belief : DefAt K mg "require_belief" (topS 39) ["model", "belief"]
  D_require_observation : DefAt K mg "require_observation" (topS 40) ["model", "observation"]
  D_shares : DefAt K mg "shares" (topS 41) ["model", "belief", "observation"]
  D_require_all : DefAt K mg "require_all" (topS 42) ["model", "belief", "observation"]
  D_chance : DefAt K mg "chance" (topS 43) ["model", "belief", "observation"]
  D_belief_after : DefAt K mg "belief_after" (topS 44) ["model", "belief", "observation"]
  D_after : DefAt K mg "after" (topS 45) ["model", "belief", "observation"]
  D_find_actions : DefAt K mg "find_actions" (topS 46) ["losses", "weights"]
  D_best_actions : DefAt K mg "best_actions" (topS 47) ["model", "losses", "belief", "observation"]
  D_mean_risk : DefAt K mg "mean_risk" (topS 48) ["model", "losses", "belief", "mixed"]
  D_find_best : DefAt K mg "find_best" (topS 49) ["model", "losses", "belief"]
  D_require_both : DefAt K mg "require_both" (topS 50) ["model", "losses", "belief"]
  D_least_of_belief : DefAt K mg "least_of_belief" (topS 51) ["model", "losses", "belief"]
  D_least_risk : DefAt K mg "least_risk" (topS 52) ["model", "losses", "belief"]
  D_best_rule : DefAt K mg "best_rule" (topS 53) ["model", "losses", "belief"]
  D__law_draw : DefAt K mg "_law_draw" (topS 55) ["_law_script", "_law_state", "_law_many"]
  D__law_fraction : DefAt K mg "_law_fraction" (topS 56) ["_law_top", "_law_bottom"]
  D__law_plus : DefAt K mg "_law_plus" (topS 57) ["_law_one", "_law_other"]
  D__law_times : DefAt K mg "_law_times" (topS 58) ["_law_one", "_law_other"]
  D__law_below : DefAt K mg "_law_below" (topS 59) ["_law_one", "_law_other"]
  D__law_spread : DefAt K mg "_law_spread" (topS 60) ["_law_weights"]
  D__law_chances : DefAt K mg "_law_chances" (topS 61) ["_law_script", "_law_state", "_law_many"]
  D__law_model : DefAt K mg "_law_model" (topS 62) ["_law_script", "_law_state", "_law_most"]
  D__law_losses : DefAt K mg "_law_losses" (topS 63) ["_law_script", "_law_state", "_law_model_here"]
  D__law_pure : DefAt K mg "_law_pure" (topS 64) ["_law_losses_here", "_law_rule"]
  D__law_mixed : DefAt K mg "_law_mixed" (topS 65) ["_law_script", "_law_state", "_law_model_here", "_law_losses_here"]
  D__law_only_best : DefAt K mg "_law_only_best" (topS 66) ["_law_model_here", "_law_losses_here", "_law_belief", "_law_mixed_here"]
  D__law_adds_up : DefAt K mg "_law_adds_up" (topS 67) ["_law_model_here", "_law_belief"]
  D_law : DefAt K mg "law" (topS 68) ["_law_script"]
  E : ∀ x c, exN.lookup c = some x → ExAt K mg xa x c
  Q : ∀ c c', (exN.lookup c).isSome = true → (exN.lookup c').isSome = true → ExEq K xa c c'
section
variable {P : Program} {wo : World} {K : PySem.W.Frag} {mg : PySem.Str → Option Value} {base : Heap} {cl xa : Nat → Addr}
theorem at_common_divisor (T : Tab K mg xa) : FnAt P wo K mg base cl xa 1 "common_divisor" Lb.d_common_divisor := fn_def false 2 2 T.D_common_divisor ck_common_divisor rfl rfl T.bts (lv_common_divisor (L := ⟨FnAt P wo K mg base cl xa 0, ExAt K mg xa, ExEq K xa⟩) )
theorem at_lowest_terms (T : Tab K mg xa) : FnAt P wo K mg base cl xa 2 "lowest_terms" Lb.d_lowest_terms := fn_def false 2 3 T.D_lowest_terms ck_lowest_terms rfl rfl T.bts (lv_lowest_terms (L := ⟨FnAt P wo K mg base cl xa 1, ExAt K mg xa, ExEq K xa⟩) ((at_common_divisor T).mono (by decide)))
theorem at_is_fraction (T : Tab K mg xa) : FnAt P wo K mg base cl xa 2 "is_fraction" Lb.d_is_fraction := fn_def false 1 2 T.D_is_fraction ck_is_fraction rfl rfl T.bts (lv_is_fraction (L := ⟨FnAt P wo K mg base cl xa 1, ExAt K mg xa, ExEq K xa⟩) ((at_common_divisor T).mono (by decide)))
theorem at_plus (T : Tab K mg xa) : FnAt P wo K mg base cl xa 3 "plus" Lb.d_plus := fn_def false 2 2 T.D_plus ck_plus rfl rfl T.bts (lv_plus (L := ⟨FnAt P wo K mg base cl xa 2, ExAt K mg xa, ExEq K xa⟩) ((at_lowest_terms T).mono (by decide)))
theorem at_times (T : Tab K mg xa) : FnAt P wo K mg base cl xa 3 "times" Lb.d_times := fn_def false 2 2 T.D_times ck_times rfl rfl T.bts (lv_times (L := ⟨FnAt P wo K mg base cl xa 2, ExAt K mg xa, ExEq K xa⟩) ((at_lowest_terms T).mono (by decide)))
theorem at_over (T : Tab K mg xa) : FnAt P wo K mg base cl xa 3 "over" Lb.d_over := fn_def false 2 2 T.D_over ck_over rfl rfl T.bts (lv_over (L := ⟨FnAt P wo K mg base cl xa 2, ExAt K mg xa, ExEq K xa⟩) ((at_lowest_terms T).mono (by decide)))
theorem at_less (T : Tab K mg xa) : FnAt P wo K mg base cl xa 1 "less" Lb.d_less := fn_def false 2 2 T.D_less ck_less rfl rfl T.bts (lv_less (L := ⟨FnAt P wo K mg base cl xa 0, ExAt K mg xa, ExEq K xa⟩) )
theorem at_total_of (T : Tab K mg xa) : FnAt P wo K mg base cl xa 4 "total_of" Lb.d_total_of := fn_def false 1 3 T.D_total_of ck_total_of rfl rfl T.bts (lv_total_of (L := ⟨FnAt P wo K mg base cl xa 3, ExAt K mg xa, ExEq K xa⟩) ((at_plus T).mono (by decide)))
theorem at_whole (T : Tab K mg xa) : FnAt P wo K mg base cl xa 1 "whole" Lb.d_whole := fn_def false 1 1 T.D_whole ck_whole rfl rfl T.bts (lv_whole (L := ⟨FnAt P wo K mg base cl xa 0, ExAt K mg xa, ExEq K xa⟩) )
theorem at_product_sum (T : Tab K mg xa) : FnAt P wo K mg base cl xa 5 "product_sum" Lb.d_product_sum := fn_def false 2 4 T.D_product_sum ck_product_sum rfl rfl T.bts (lv_product_sum (L := ⟨FnAt P wo K mg base cl xa 4, ExAt K mg xa, ExEq K xa⟩) ((at_total_of T).mono (by decide)) ((at_times T).mono (by decide)))
theorem at_is_integer (T : Tab K mg xa) : FnAt P wo K mg base cl xa 1 "is_integer" Lb.d_is_integer := fn_def false 3 3 T.D_is_integer ck_is_integer rfl rfl T.bts (lv_is_integer (L := ⟨FnAt P wo K mg base cl xa 0, ExAt K mg xa, ExEq K xa⟩) )
theorem at_are_chances (T : Tab K mg xa) : FnAt P wo K mg base cl xa 5 "are_chances" Lb.d_are_chances := fn_def false 3 4 T.D_are_chances ck_are_chances rfl rfl T.bts (lv_are_chances (L := ⟨FnAt P wo K mg base cl xa 4, ExAt K mg xa, ExEq K xa⟩) ((at_total_of T).mono (by decide)) ((at_is_fraction T).mono (by decide)))
theorem at_is_model (T : Tab K mg xa) : FnAt P wo K mg base cl xa 6 "is_model" Lb.d_is_model := fn_def false 1 3 T.D_is_model ck_is_model rfl rfl T.bts (lv_is_model (L := ⟨FnAt P wo K mg base cl xa 5, ExAt K mg xa, ExEq K xa⟩) ((at_are_chances T).mono (by decide)))
theorem at_require_model (T : Tab K mg xa) : FnAt P wo K mg base cl xa 7 "require_model" Lb.d_require_model := fn_def false 1 1 T.D_require_model ck_require_model rfl rfl T.bts (lv_require_model (L := ⟨FnAt P wo K mg base cl xa 6, ExAt K mg xa, ExEq K xa⟩) ((at_is_model T).mono (by decide)) T.E T.Q)
theorem at_are_valid_losses (T : Tab K mg xa) : FnAt P wo K mg base cl xa 2 "are_valid_losses" Lb.d_are_valid_losses := fn_def false 2 4 T.D_are_valid_losses ck_are_valid_losses rfl rfl T.bts (lv_are_valid_losses (L := ⟨FnAt P wo K mg base cl xa 1, ExAt K mg xa, ExEq K xa⟩) ((at_is_integer T).mono (by decide)))
theorem at_require_losses (T : Tab K mg xa) : FnAt P wo K mg base cl xa 8 "require_losses" Lb.d_require_losses := fn_def false 2 2 T.D_require_losses ck_require_losses rfl rfl T.bts (lv_require_losses (L := ⟨FnAt P wo K mg base cl xa 7, ExAt K mg xa, ExEq K xa⟩) ((at_require_model T).mono (by decide)) ((at_are_valid_losses T).mono (by decide)) T.E T.Q)
theorem at_is_valid_rule (T : Tab K mg xa) : FnAt P wo K mg base cl xa 2 "is_valid_rule" Lb.d_is_valid_rule := fn_def false 3 4 T.D_is_valid_rule ck_is_valid_rule rfl rfl T.bts (lv_is_valid_rule (L := ⟨FnAt P wo K mg base cl xa 1, ExAt K mg xa, ExEq K xa⟩) ((at_is_integer T).mono (by decide)))
theorem at_require_rule (T : Tab K mg xa) : FnAt P wo K mg base cl xa 9 "require_rule" Lb.d_require_rule := fn_def false 3 3 T.D_require_rule ck_require_rule rfl rfl T.bts (lv_require_rule (L := ⟨FnAt P wo K mg base cl xa 8, ExAt K mg xa, ExEq K xa⟩) ((at_require_losses T).mono (by decide)) ((at_is_valid_rule T).mono (by decide)) T.E T.Q)
theorem at_is_valid_mixed (T : Tab K mg xa) : FnAt P wo K mg base cl xa 6 "is_valid_mixed" Lb.d_is_valid_mixed := fn_def false 3 4 T.D_is_valid_mixed ck_is_valid_mixed rfl rfl T.bts (lv_is_valid_mixed (L := ⟨FnAt P wo K mg base cl xa 5, ExAt K mg xa, ExEq K xa⟩) ((at_are_chances T).mono (by decide)))
theorem at_require_mixed (T : Tab K mg xa) : FnAt P wo K mg base cl xa 9 "require_mixed" Lb.d_require_mixed := fn_def false 3 3 T.D_require_mixed ck_require_mixed rfl rfl T.bts (lv_require_mixed (L := ⟨FnAt P wo K mg base cl xa 8, ExAt K mg xa, ExEq K xa⟩) ((at_require_losses T).mono (by decide)) ((at_is_valid_mixed T).mono (by decide)) T.E T.Q)
theorem at_mixed_of (T : Tab K mg xa) : FnAt P wo K mg base cl xa 1 "mixed_of" Lb.d_mixed_of := fn_def false 2 4 T.D_mixed_of ck_mixed_of rfl rfl T.bts (lv_mixed_of (L := ⟨FnAt P wo K mg base cl xa 0, ExAt K mg xa, ExEq K xa⟩) )
theorem at_as_mixed (T : Tab K mg xa) : FnAt P wo K mg base cl xa 10 "as_mixed" Lb.d_as_mixed := fn_def false 3 3 T.D_as_mixed ck_as_mixed rfl rfl T.bts (lv_as_mixed (L := ⟨FnAt P wo K mg base cl xa 9, ExAt K mg xa, ExEq K xa⟩) ((at_require_rule T).mono (by decide)) ((at_mixed_of T).mono (by decide)))
theorem at_mean_losses (T : Tab K mg xa) : FnAt P wo K mg base cl xa 6 "mean_losses" Lb.d_mean_losses := fn_def false 3 4 T.D_mean_losses ck_mean_losses rfl rfl T.bts (lv_mean_losses (L := ⟨FnAt P wo K mg base cl xa 5, ExAt K mg xa, ExEq K xa⟩) ((at_product_sum T).mono (by decide)) ((at_whole T).mono (by decide)))
theorem at_risks_of (T : Tab K mg xa) : FnAt P wo K mg base cl xa 7 "risks_of" Lb.d_risks_of := fn_def false 3 9 T.D_risks_of ck_risks_of rfl rfl T.bts (lv_risks_of (L := ⟨FnAt P wo K mg base cl xa 6, ExAt K mg xa, ExEq K xa⟩) ((at_times T).mono (by decide)) ((at_total_of T).mono (by decide)) ((at_mean_losses T).mono (by decide)))
theorem at_least_of (T : Tab K mg xa) : FnAt P wo K mg base cl xa 2 "least_of" Lb.d_least_of := fn_def false 1 3 T.D_least_of ck_least_of rfl rfl T.bts (lv_least_of (L := ⟨FnAt P wo K mg base cl xa 1, ExAt K mg xa, ExEq K xa⟩) ((at_less T).mono (by decide)))
theorem at_is_valid_belief (T : Tab K mg xa) : FnAt P wo K mg base cl xa 6 "is_valid_belief" Lb.d_is_valid_belief := fn_def false 2 2 T.D_is_valid_belief ck_is_valid_belief rfl rfl T.bts (lv_is_valid_belief (L := ⟨FnAt P wo K mg base cl xa 5, ExAt K mg xa, ExEq K xa⟩) ((at_are_chances T).mono (by decide)))
theorem at_is_belief (T : Tab K mg xa) : FnAt P wo K mg base cl xa 8 "is_belief" Lb.d_is_belief := fn_def false 2 2 T.D_is_belief ck_is_belief rfl rfl T.bts (lv_is_belief (L := ⟨FnAt P wo K mg base cl xa 7, ExAt K mg xa, ExEq K xa⟩) ((at_require_model T).mono (by decide)) ((at_is_valid_belief T).mono (by decide)))
theorem at_require_belief (T : Tab K mg xa) : FnAt P wo K mg base cl xa 7 "require_belief" Lb.d_require_belief := fn_def false 2 2 T.D_require_belief ck_require_belief rfl rfl T.bts (lv_require_belief (L := ⟨FnAt P wo K mg base cl xa 6, ExAt K mg xa, ExEq K xa⟩) ((at_is_valid_belief T).mono (by decide)) T.E T.Q)
theorem at_require_observation (T : Tab K mg xa) : FnAt P wo K mg base cl xa 2 "require_observation" Lb.d_require_observation := fn_def false 2 2 T.D_require_observation ck_require_observation rfl rfl T.bts (lv_require_observation (L := ⟨FnAt P wo K mg base cl xa 1, ExAt K mg xa, ExEq K xa⟩) ((at_is_integer T).mono (by decide)) T.E T.Q)
theorem at_shares (T : Tab K mg xa) : FnAt P wo K mg base cl xa 4 "shares" Lb.d_shares := fn_def false 3 5 T.D_shares ck_shares rfl rfl T.bts (lv_shares (L := ⟨FnAt P wo K mg base cl xa 3, ExAt K mg xa, ExEq K xa⟩) ((at_times T).mono (by decide)))
theorem at_require_all (T : Tab K mg xa) : FnAt P wo K mg base cl xa 8 "require_all" Lb.d_require_all := fn_def false 3 3 T.D_require_all ck_require_all rfl rfl T.bts (lv_require_all (L := ⟨FnAt P wo K mg base cl xa 7, ExAt K mg xa, ExEq K xa⟩) ((at_require_model T).mono (by decide)) ((at_require_belief T).mono (by decide)) ((at_require_observation T).mono (by decide)))
theorem at_chance (T : Tab K mg xa) : FnAt P wo K mg base cl xa 9 "chance" Lb.d_chance := fn_def false 3 3 T.D_chance ck_chance rfl rfl T.bts (lv_chance (L := ⟨FnAt P wo K mg base cl xa 8, ExAt K mg xa, ExEq K xa⟩) ((at_require_all T).mono (by decide)) ((at_total_of T).mono (by decide)) ((at_shares T).mono (by decide)))
theorem at_belief_after (T : Tab K mg xa) : FnAt P wo K mg base cl xa 5 "belief_after" Lb.d_belief_after := fn_def false 3 6 T.D_belief_after ck_belief_after rfl rfl T.bts (lv_belief_after (L := ⟨FnAt P wo K mg base cl xa 4, ExAt K mg xa, ExEq K xa⟩) ((at_shares T).mono (by decide)) ((at_total_of T).mono (by decide)) ((at_over T).mono (by decide)))
theorem at_after (T : Tab K mg xa) : FnAt P wo K mg base cl xa 9 "after" Lb.d_after := fn_def false 3 3 T.D_after ck_after rfl rfl T.bts (lv_after (L := ⟨FnAt P wo K mg base cl xa 8, ExAt K mg xa, ExEq K xa⟩) ((at_require_all T).mono (by decide)) ((at_belief_after T).mono (by decide)))
theorem at_find_actions (T : Tab K mg xa) : FnAt P wo K mg base cl xa 6 "find_actions" Lb.d_find_actions := fn_def false 2 8 T.D_find_actions ck_find_actions rfl rfl T.bts (lv_find_actions (L := ⟨FnAt P wo K mg base cl xa 5, ExAt K mg xa, ExEq K xa⟩) ((at_least_of T).mono (by decide)) ((at_product_sum T).mono (by decide)) ((at_whole T).mono (by decide)))
theorem at_best_actions (T : Tab K mg xa) : FnAt P wo K mg base cl xa 9 "best_actions" Lb.d_best_actions := fn_def false 4 4 T.D_best_actions ck_best_actions rfl rfl T.bts (lv_best_actions (L := ⟨FnAt P wo K mg base cl xa 8, ExAt K mg xa, ExEq K xa⟩) ((at_require_losses T).mono (by decide)) ((at_require_belief T).mono (by decide)) ((at_require_observation T).mono (by decide)) ((at_find_actions T).mono (by decide)) ((at_shares T).mono (by decide)))
theorem at_mean_risk (T : Tab K mg xa) : FnAt P wo K mg base cl xa 10 "mean_risk" Lb.d_mean_risk := fn_def false 4 4 T.D_mean_risk ck_mean_risk rfl rfl T.bts (lv_mean_risk (L := ⟨FnAt P wo K mg base cl xa 9, ExAt K mg xa, ExEq K xa⟩) ((at_require_losses T).mono (by decide)) ((at_require_belief T).mono (by decide)) ((at_require_mixed T).mono (by decide)) ((at_product_sum T).mono (by decide)) ((at_risks_of T).mono (by decide)))
theorem at_find_best (T : Tab K mg xa) : FnAt P wo K mg base cl xa 7 "find_best" Lb.d_find_best := fn_def false 3 4 T.D_find_best ck_find_best rfl rfl T.bts (lv_find_best (L := ⟨FnAt P wo K mg base cl xa 6, ExAt K mg xa, ExEq K xa⟩) ((at_find_actions T).mono (by decide)) ((at_shares T).mono (by decide)))
theorem at_require_both (T : Tab K mg xa) : FnAt P wo K mg base cl xa 9 "require_both" Lb.d_require_both := fn_def false 3 3 T.D_require_both ck_require_both rfl rfl T.bts (lv_require_both (L := ⟨FnAt P wo K mg base cl xa 8, ExAt K mg xa, ExEq K xa⟩) ((at_require_losses T).mono (by decide)) ((at_require_belief T).mono (by decide)))
theorem at_least_of_belief (T : Tab K mg xa) : FnAt P wo K mg base cl xa 8 "least_of_belief" Lb.d_least_of_belief := fn_def false 3 3 T.D_least_of_belief ck_least_of_belief rfl rfl T.bts (lv_least_of_belief (L := ⟨FnAt P wo K mg base cl xa 7, ExAt K mg xa, ExEq K xa⟩) ((at_product_sum T).mono (by decide)) ((at_risks_of T).mono (by decide)) ((at_mixed_of T).mono (by decide)) ((at_find_best T).mono (by decide)))
theorem at_least_risk (T : Tab K mg xa) : FnAt P wo K mg base cl xa 10 "least_risk" Lb.d_least_risk := fn_def false 3 3 T.D_least_risk ck_least_risk rfl rfl T.bts (lv_least_risk (L := ⟨FnAt P wo K mg base cl xa 9, ExAt K mg xa, ExEq K xa⟩) ((at_require_both T).mono (by decide)) ((at_least_of_belief T).mono (by decide)))
theorem at_best_rule (T : Tab K mg xa) : FnAt P wo K mg base cl xa 10 "best_rule" Lb.d_best_rule := fn_def false 3 3 T.D_best_rule ck_best_rule rfl rfl T.bts (lv_best_rule (L := ⟨FnAt P wo K mg base cl xa 9, ExAt K mg xa, ExEq K xa⟩) ((at_require_both T).mono (by decide)) ((at_find_best T).mono (by decide)))
theorem at__law_draw (T : Tab K mg xa) : FnAt P wo K mg base cl xa 1 "_law_draw" Lb.d__law_draw := fn_def false 3 8 T.D__law_draw ck__law_draw rfl rfl T.bts (lv__law_draw (L := ⟨FnAt P wo K mg base cl xa 0, ExAt K mg xa, ExEq K xa⟩) )
theorem at__law_fraction (T : Tab K mg xa) : FnAt P wo K mg base cl xa 1 "_law_fraction" Lb.d__law_fraction := fn_def false 2 5 T.D__law_fraction ck__law_fraction rfl rfl T.bts (lv__law_fraction (L := ⟨FnAt P wo K mg base cl xa 0, ExAt K mg xa, ExEq K xa⟩) )
theorem at__law_plus (T : Tab K mg xa) : FnAt P wo K mg base cl xa 2 "_law_plus" Lb.d__law_plus := fn_def false 2 2 T.D__law_plus ck__law_plus rfl rfl T.bts (lv__law_plus (L := ⟨FnAt P wo K mg base cl xa 1, ExAt K mg xa, ExEq K xa⟩) ((at__law_fraction T).mono (by decide)))
theorem at__law_times (T : Tab K mg xa) : FnAt P wo K mg base cl xa 2 "_law_times" Lb.d__law_times := fn_def false 2 2 T.D__law_times ck__law_times rfl rfl T.bts (lv__law_times (L := ⟨FnAt P wo K mg base cl xa 1, ExAt K mg xa, ExEq K xa⟩) ((at__law_fraction T).mono (by decide)))
theorem at__law_below (T : Tab K mg xa) : FnAt P wo K mg base cl xa 1 "_law_below" Lb.d__law_below := fn_def false 2 2 T.D__law_below ck__law_below rfl rfl T.bts (lv__law_below (L := ⟨FnAt P wo K mg base cl xa 0, ExAt K mg xa, ExEq K xa⟩) )
theorem at__law_spread (T : Tab K mg xa) : FnAt P wo K mg base cl xa 2 "_law_spread" Lb.d__law_spread := fn_def false 1 2 T.D__law_spread ck__law_spread rfl rfl T.bts (lv__law_spread (L := ⟨FnAt P wo K mg base cl xa 1, ExAt K mg xa, ExEq K xa⟩) ((at__law_fraction T).mono (by decide)))
theorem at__law_chances (T : Tab K mg xa) : FnAt P wo K mg base cl xa 3 "_law_chances" Lb.d__law_chances := fn_def false 3 5 T.D__law_chances ck__law_chances rfl rfl T.bts (lv__law_chances (L := ⟨FnAt P wo K mg base cl xa 2, ExAt K mg xa, ExEq K xa⟩) ((at__law_spread T).mono (by decide)) ((at__law_draw T).mono (by decide)))
theorem at__law_model (T : Tab K mg xa) : FnAt P wo K mg base cl xa 3 "_law_model" Lb.d__law_model := fn_def false 3 9 T.D__law_model ck__law_model rfl rfl T.bts (lv__law_model (L := ⟨FnAt P wo K mg base cl xa 2, ExAt K mg xa, ExEq K xa⟩) ((at__law_draw T).mono (by decide)) ((at__law_spread T).mono (by decide)))
theorem at__law_losses (T : Tab K mg xa) : FnAt P wo K mg base cl xa 2 "_law_losses" Lb.d__law_losses := fn_def false 3 6 T.D__law_losses ck__law_losses rfl rfl T.bts (lv__law_losses (L := ⟨FnAt P wo K mg base cl xa 1, ExAt K mg xa, ExEq K xa⟩) ((at__law_draw T).mono (by decide)))
theorem at__law_pure (T : Tab K mg xa) : FnAt P wo K mg base cl xa 1 "_law_pure" Lb.d__law_pure := fn_def false 2 4 T.D__law_pure ck__law_pure rfl rfl T.bts (lv__law_pure (L := ⟨FnAt P wo K mg base cl xa 0, ExAt K mg xa, ExEq K xa⟩) )
theorem at__law_mixed (T : Tab K mg xa) : FnAt P wo K mg base cl xa 4 "_law_mixed" Lb.d__law_mixed := fn_def false 4 5 T.D__law_mixed ck__law_mixed rfl rfl T.bts (lv__law_mixed (L := ⟨FnAt P wo K mg base cl xa 3, ExAt K mg xa, ExEq K xa⟩) ((at__law_draw T).mono (by decide)) ((at__law_pure T).mono (by decide)) ((at__law_chances T).mono (by decide)))
theorem at__law_only_best (T : Tab K mg xa) : FnAt P wo K mg base cl xa 10 "_law_only_best" Lb.d__law_only_best := fn_def false 4 7 T.D__law_only_best ck__law_only_best rfl rfl T.bts (lv__law_only_best (L := ⟨FnAt P wo K mg base cl xa 9, ExAt K mg xa, ExEq K xa⟩) ((at_best_actions T).mono (by decide)))
theorem at__law_adds_up (T : Tab K mg xa) : FnAt P wo K mg base cl xa 10 "_law_adds_up" Lb.d__law_adds_up := fn_def false 2 9 T.D__law_adds_up ck__law_adds_up rfl rfl T.bts (lv__law_adds_up (L := ⟨FnAt P wo K mg base cl xa 9, ExAt K mg xa, ExEq K xa⟩) ((at__law_plus T).mono (by decide)) ((at_chance T).mono (by decide)) ((at_after T).mono (by decide)) ((at_is_belief T).mono (by decide)) ((at__law_times T).mono (by decide)))
theorem at_law {fa : Addr} (T : Tab K mg xa) (hx : mg "law" = some (.ref fa)) : ∃ fd : FuncData, (∀ (s : Shared) (u : Value), BindsTo s fd ⟨[u], []⟩ [("_law_script", u)]) ∧ ∀ base : Heap, K.In base → base.Ns mainGlobals mg → FnOk P wo K mg base (L2.CX P wo) 11 fa fd ["_law_script"] (spF K cl xa Lb.d_law_k06 1) :=
  law_fn 11 T.D_law ck_law rfl hx T.bts fun base _ _ => lv_law (L := ⟨FnAt P wo K mg base cl xa 10, ExAt K mg xa, ExEq K xa⟩) ((at__law_model T).mono (by decide)) ((at_least_risk T).mono (by decide)) ((at_as_mixed T).mono (by decide)) ((at__law_losses T).mono (by decide)) ((at__law_chances T).mono (by decide)) ((at__law_adds_up T).mono (by decide)) ((at_best_rule T).mono (by decide)) ((at__law_mixed T).mono (by decide)) ((at_mean_risk T).mono (by decide)) ((at__law_only_best T).mono (by decide)) ((at__law_below T).mono (by decide))
end
theorem tab_mk {K : PySem.W.Frag} {mg : PySem.Str → Option Value} {h : Heap} (X : K.In h) (G : h.Ns mainGlobals mg) (z0 : PySem.W.nsIn K mainGlobals "len" = some none) (z1 : PySem.W.nsIn K mainGlobals "abs" = some none) (z2 : PySem.W.nsIn K mainGlobals "max" = some none) (z3 : PySem.W.nsIn K mainGlobals "min" = some none) (z4 : PySem.W.nsIn K mainGlobals "sum" = some none) (z5 : PySem.W.nsIn K mainGlobals "all" = some none) (z6 : PySem.W.nsIn K mainGlobals "any" = some none) (z7 : PySem.W.nsIn K mainGlobals "int" = some none) (z8 : PySem.W.nsIn K mainGlobals "str" = some none) (z9 : PySem.W.nsIn K mainGlobals "tuple" = some none) (z10 : PySem.W.nsIn K mainGlobals "list" = some none) (z11 : PySem.W.nsIn K mainGlobals "bool" = some none) (z12 : PySem.W.nsIn K mainGlobals "isinstance" = some none) (z13 : PySem.W.nsIn K mainGlobals "range" = some none) (z14 : PySem.W.nsIn K mainGlobals "enumerate" = some none) (z15 : PySem.W.nsIn K mainGlobals "zip" = some none)
    {f0 : Addr} {oc0 : Value} {od0 an0 : Option Addr} {sl0 : Array (Option Value)} {kV0 dc0 pm0 cd0 ct0 : Value} (a0 : PySem.W.nsIn K mainGlobals "common_divisor" = some (some (.ref f0))) (l0 : K.lookup f0 = some ⟨oc0, od0, .func (PySem.W.fnOf "common_divisor" "common_divisor" (defArgs (topS 9)) (defBody (topS 9)) (defScope (topS 9)) .none kV0 dc0 pm0 an0 cd0 ct0), sl0⟩) (c0 : PySem.W.codeIn K cd0 "common_divisor" = true) (k0 : PySem.W.keepIn K (.ref f0) = true)
    {f1 : Addr} {oc1 : Value} {od1 an1 : Option Addr} {sl1 : Array (Option Value)} {kV1 dc1 pm1 cd1 ct1 : Value} (a1 : PySem.W.nsIn K mainGlobals "lowest_terms" = some (some (.ref f1))) (l1 : K.lookup f1 = some ⟨oc1, od1, .func (PySem.W.fnOf "lowest_terms" "lowest_terms" (defArgs (topS 10)) (defBody (topS 10)) (defScope (topS 10)) .none kV1 dc1 pm1 an1 cd1 ct1), sl1⟩) (c1 : PySem.W.codeIn K cd1 "lowest_terms" = true) (k1 : PySem.W.keepIn K (.ref f1) = true)
    {f2 : Addr} {oc2 : Value} {od2 an2 : Option Addr} {sl2 : Array (Option Value)} {kV2 dc2 pm2 cd2 ct2 : Value} (a2 : PySem.W.nsIn K mainGlobals "is_fraction" = some (some (.ref f2))) (l2 : K.lookup f2 = some ⟨oc2, od2, .func (PySem.W.fnOf "is_fraction" "is_fraction" (defArgs (topS 11)) (defBody (topS 11)) (defScope (topS 11)) .none kV2 dc2 pm2 an2 cd2 ct2), sl2⟩) (c2 : PySem.W.codeIn K cd2 "is_fraction" = true) (k2 : PySem.W.keepIn K (.ref f2) = true)
    {f3 : Addr} {oc3 : Value} {od3 an3 : Option Addr} {sl3 : Array (Option Value)} {kV3 dc3 pm3 cd3 ct3 : Value} (a3 : PySem.W.nsIn K mainGlobals "plus" = some (some (.ref f3))) (l3 : K.lookup f3 = some ⟨oc3, od3, .func (PySem.W.fnOf "plus" "plus" (defArgs (topS 12)) (defBody (topS 12)) (defScope (topS 12)) .none kV3 dc3 pm3 an3 cd3 ct3), sl3⟩) (c3 : PySem.W.codeIn K cd3 "plus" = true) (k3 : PySem.W.keepIn K (.ref f3) = true)
    {f4 : Addr} {oc4 : Value} {od4 an4 : Option Addr} {sl4 : Array (Option Value)} {kV4 dc4 pm4 cd4 ct4 : Value} (a4 : PySem.W.nsIn K mainGlobals "times" = some (some (.ref f4))) (l4 : K.lookup f4 = some ⟨oc4, od4, .func (PySem.W.fnOf "times" "times" (defArgs (topS 13)) (defBody (topS 13)) (defScope (topS 13)) .none kV4 dc4 pm4 an4 cd4 ct4), sl4⟩) (c4 : PySem.W.codeIn K cd4 "times" = true) (k4 : PySem.W.keepIn K (.ref f4) = true)
    {f5 : Addr} {oc5 : Value} {od5 an5 : Option Addr} {sl5 : Array (Option Value)} {kV5 dc5 pm5 cd5 ct5 : Value} (a5 : PySem.W.nsIn K mainGlobals "over" = some (some (.ref f5))) (l5 : K.lookup f5 = some ⟨oc5, od5, .func (PySem.W.fnOf "over" "over" (defArgs (topS 14)) (defBody (topS 14)) (defScope (topS 14)) .none kV5 dc5 pm5 an5 cd5 ct5), sl5⟩) (c5 : PySem.W.codeIn K cd5 "over" = true) (k5 : PySem.W.keepIn K (.ref f5) = true)
    {f6 : Addr} {oc6 : Value} {od6 an6 : Option Addr} {sl6 : Array (Option Value)} {kV6 dc6 pm6 cd6 ct6 : Value} (a6 : PySem.W.nsIn K mainGlobals "less" = some (some (.ref f6))) (l6 : K.lookup f6 = some ⟨oc6, od6, .func (PySem.W.fnOf "less" "less" (defArgs (topS 15)) (defBody (topS 15)) (defScope (topS 15)) .none kV6 dc6 pm6 an6 cd6 ct6), sl6⟩) (c6 : PySem.W.codeIn K cd6 "less" = true) (k6 : PySem.W.keepIn K (.ref f6) = true)
    {f7 : Addr} {oc7 : Value} {od7 an7 : Option Addr} {sl7 : Array (Option Value)} {kV7 dc7 pm7 cd7 ct7 : Value} (a7 : PySem.W.nsIn K mainGlobals "total_of" = some (some (.ref f7))) (l7 : K.lookup f7 = some ⟨oc7, od7, .func (PySem.W.fnOf "total_of" "total_of" (defArgs (topS 16)) (defBody (topS 16)) (defScope (topS 16)) .none kV7 dc7 pm7 an7 cd7 ct7), sl7⟩) (c7 : PySem.W.codeIn K cd7 "total_of" = true) (k7 : PySem.W.keepIn K (.ref f7) = true)
    {f8 : Addr} {oc8 : Value} {od8 an8 : Option Addr} {sl8 : Array (Option Value)} {kV8 dc8 pm8 cd8 ct8 : Value} (a8 : PySem.W.nsIn K mainGlobals "whole" = some (some (.ref f8))) (l8 : K.lookup f8 = some ⟨oc8, od8, .func (PySem.W.fnOf "whole" "whole" (defArgs (topS 17)) (defBody (topS 17)) (defScope (topS 17)) .none kV8 dc8 pm8 an8 cd8 ct8), sl8⟩) (c8 : PySem.W.codeIn K cd8 "whole" = true) (k8 : PySem.W.keepIn K (.ref f8) = true)
    {f9 : Addr} {oc9 : Value} {od9 an9 : Option Addr} {sl9 : Array (Option Value)} {kV9 dc9 pm9 cd9 ct9 : Value} (a9 : PySem.W.nsIn K mainGlobals "product_sum" = some (some (.ref f9))) (l9 : K.lookup f9 = some ⟨oc9, od9, .func (PySem.W.fnOf "product_sum" "product_sum" (defArgs (topS 18)) (defBody (topS 18)) (defScope (topS 18)) .none kV9 dc9 pm9 an9 cd9 ct9), sl9⟩) (c9 : PySem.W.codeIn K cd9 "product_sum" = true) (k9 : PySem.W.keepIn K (.ref f9) = true)
    {f10 : Addr} {oc10 : Value} {od10 an10 : Option Addr} {sl10 : Array (Option Value)} {kV10 dc10 pm10 cd10 ct10 : Value} (a10 : PySem.W.nsIn K mainGlobals "is_integer" = some (some (.ref f10))) (l10 : K.lookup f10 = some ⟨oc10, od10, .func (PySem.W.fnOf "is_integer" "is_integer" (defArgs (topS 20)) (defBody (topS 20)) (defScope (topS 20)) .none kV10 dc10 pm10 an10 cd10 ct10), sl10⟩) (c10 : PySem.W.codeIn K cd10 "is_integer" = true) (k10 : PySem.W.keepIn K (.ref f10) = true)
    {f11 : Addr} {oc11 : Value} {od11 an11 : Option Addr} {sl11 : Array (Option Value)} {kV11 dc11 pm11 cd11 ct11 : Value} (a11 : PySem.W.nsIn K mainGlobals "are_chances" = some (some (.ref f11))) (l11 : K.lookup f11 = some ⟨oc11, od11, .func (PySem.W.fnOf "are_chances" "are_chances" (defArgs (topS 21)) (defBody (topS 21)) (defScope (topS 21)) .none kV11 dc11 pm11 an11 cd11 ct11), sl11⟩) (c11 : PySem.W.codeIn K cd11 "are_chances" = true) (k11 : PySem.W.keepIn K (.ref f11) = true)
    {f12 : Addr} {oc12 : Value} {od12 an12 : Option Addr} {sl12 : Array (Option Value)} {kV12 dc12 pm12 cd12 ct12 : Value} (a12 : PySem.W.nsIn K mainGlobals "is_model" = some (some (.ref f12))) (l12 : K.lookup f12 = some ⟨oc12, od12, .func (PySem.W.fnOf "is_model" "is_model" (defArgs (topS 22)) (defBody (topS 22)) (defScope (topS 22)) .none kV12 dc12 pm12 an12 cd12 ct12), sl12⟩) (c12 : PySem.W.codeIn K cd12 "is_model" = true) (k12 : PySem.W.keepIn K (.ref f12) = true)
    {f13 : Addr} {oc13 : Value} {od13 an13 : Option Addr} {sl13 : Array (Option Value)} {kV13 dc13 pm13 cd13 ct13 : Value} (a13 : PySem.W.nsIn K mainGlobals "require_model" = some (some (.ref f13))) (l13 : K.lookup f13 = some ⟨oc13, od13, .func (PySem.W.fnOf "require_model" "require_model" (defArgs (topS 23)) (defBody (topS 23)) (defScope (topS 23)) .none kV13 dc13 pm13 an13 cd13 ct13), sl13⟩) (c13 : PySem.W.codeIn K cd13 "require_model" = true) (k13 : PySem.W.keepIn K (.ref f13) = true)
    {f14 : Addr} {oc14 : Value} {od14 an14 : Option Addr} {sl14 : Array (Option Value)} {kV14 dc14 pm14 cd14 ct14 : Value} (a14 : PySem.W.nsIn K mainGlobals "are_valid_losses" = some (some (.ref f14))) (l14 : K.lookup f14 = some ⟨oc14, od14, .func (PySem.W.fnOf "are_valid_losses" "are_valid_losses" (defArgs (topS 24)) (defBody (topS 24)) (defScope (topS 24)) .none kV14 dc14 pm14 an14 cd14 ct14), sl14⟩) (c14 : PySem.W.codeIn K cd14 "are_valid_losses" = true) (k14 : PySem.W.keepIn K (.ref f14) = true)
    {f15 : Addr} {oc15 : Value} {od15 an15 : Option Addr} {sl15 : Array (Option Value)} {kV15 dc15 pm15 cd15 ct15 : Value} (a15 : PySem.W.nsIn K mainGlobals "require_losses" = some (some (.ref f15))) (l15 : K.lookup f15 = some ⟨oc15, od15, .func (PySem.W.fnOf "require_losses" "require_losses" (defArgs (topS 25)) (defBody (topS 25)) (defScope (topS 25)) .none kV15 dc15 pm15 an15 cd15 ct15), sl15⟩) (c15 : PySem.W.codeIn K cd15 "require_losses" = true) (k15 : PySem.W.keepIn K (.ref f15) = true)
    {f16 : Addr} {oc16 : Value} {od16 an16 : Option Addr} {sl16 : Array (Option Value)} {kV16 dc16 pm16 cd16 ct16 : Value} (a16 : PySem.W.nsIn K mainGlobals "is_valid_rule" = some (some (.ref f16))) (l16 : K.lookup f16 = some ⟨oc16, od16, .func (PySem.W.fnOf "is_valid_rule" "is_valid_rule" (defArgs (topS 26)) (defBody (topS 26)) (defScope (topS 26)) .none kV16 dc16 pm16 an16 cd16 ct16), sl16⟩) (c16 : PySem.W.codeIn K cd16 "is_valid_rule" = true) (k16 : PySem.W.keepIn K (.ref f16) = true)
    {f17 : Addr} {oc17 : Value} {od17 an17 : Option Addr} {sl17 : Array (Option Value)} {kV17 dc17 pm17 cd17 ct17 : Value} (a17 : PySem.W.nsIn K mainGlobals "require_rule" = some (some (.ref f17))) (l17 : K.lookup f17 = some ⟨oc17, od17, .func (PySem.W.fnOf "require_rule" "require_rule" (defArgs (topS 27)) (defBody (topS 27)) (defScope (topS 27)) .none kV17 dc17 pm17 an17 cd17 ct17), sl17⟩) (c17 : PySem.W.codeIn K cd17 "require_rule" = true) (k17 : PySem.W.keepIn K (.ref f17) = true)
    {f18 : Addr} {oc18 : Value} {od18 an18 : Option Addr} {sl18 : Array (Option Value)} {kV18 dc18 pm18 cd18 ct18 : Value} (a18 : PySem.W.nsIn K mainGlobals "is_valid_mixed" = some (some (.ref f18))) (l18 : K.lookup f18 = some ⟨oc18, od18, .func (PySem.W.fnOf "is_valid_mixed" "is_valid_mixed" (defArgs (topS 28)) (defBody (topS 28)) (defScope (topS 28)) .none kV18 dc18 pm18 an18 cd18 ct18), sl18⟩) (c18 : PySem.W.codeIn K cd18 "is_valid_mixed" = true) (k18 : PySem.W.keepIn K (.ref f18) = true)
    {f19 : Addr} {oc19 : Value} {od19 an19 : Option Addr} {sl19 : Array (Option Value)} {kV19 dc19 pm19 cd19 ct19 : Value} (a19 : PySem.W.nsIn K mainGlobals "require_mixed" = some (some (.ref f19))) (l19 : K.lookup f19 = some ⟨oc19, od19, .func (PySem.W.fnOf "require_mixed" "require_mixed" (defArgs (topS 29)) (defBody (topS 29)) (defScope (topS 29)) .none kV19 dc19 pm19 an19 cd19 ct19), sl19⟩) (c19 : PySem.W.codeIn K cd19 "require_mixed" = true) (k19 : PySem.W.keepIn K (.ref f19) = true)
    {f20 : Addr} {oc20 : Value} {od20 an20 : Option Addr} {sl20 : Array (Option Value)} {kV20 dc20 pm20 cd20 ct20 : Value} (a20 : PySem.W.nsIn K mainGlobals "mixed_of" = some (some (.ref f20))) (l20 : K.lookup f20 = some ⟨oc20, od20, .func (PySem.W.fnOf "mixed_of" "mixed_of" (defArgs (topS 30)) (defBody (topS 30)) (defScope (topS 30)) .none kV20 dc20 pm20 an20 cd20 ct20), sl20⟩) (c20 : PySem.W.codeIn K cd20 "mixed_of" = true) (k20 : PySem.W.keepIn K (.ref f20) = true)
    {f21 : Addr} {oc21 : Value} {od21 an21 : Option Addr} {sl21 : Array (Option Value)} {kV21 dc21 pm21 cd21 ct21 : Value} (a21 : PySem.W.nsIn K mainGlobals "as_mixed" = some (some (.ref f21))) (l21 : K.lookup f21 = some ⟨oc21, od21, .func (PySem.W.fnOf "as_mixed" "as_mixed" (defArgs (topS 31)) (defBody (topS 31)) (defScope (topS 31)) .none kV21 dc21 pm21 an21 cd21 ct21), sl21⟩) (c21 : PySem.W.codeIn K cd21 "as_mixed" = true) (k21 : PySem.W.keepIn K (.ref f21) = true)
    {f22 : Addr} {oc22 : Value} {od22 an22 : Option Addr} {sl22 : Array (Option Value)} {kV22 dc22 pm22 cd22 ct22 : Value} (a22 : PySem.W.nsIn K mainGlobals "mean_losses" = some (some (.ref f22))) (l22 : K.lookup f22 = some ⟨oc22, od22, .func (PySem.W.fnOf "mean_losses" "mean_losses" (defArgs (topS 33)) (defBody (topS 33)) (defScope (topS 33)) .none kV22 dc22 pm22 an22 cd22 ct22), sl22⟩) (c22 : PySem.W.codeIn K cd22 "mean_losses" = true) (k22 : PySem.W.keepIn K (.ref f22) = true)
    {f23 : Addr} {oc23 : Value} {od23 an23 : Option Addr} {sl23 : Array (Option Value)} {kV23 dc23 pm23 cd23 ct23 : Value} (a23 : PySem.W.nsIn K mainGlobals "risks_of" = some (some (.ref f23))) (l23 : K.lookup f23 = some ⟨oc23, od23, .func (PySem.W.fnOf "risks_of" "risks_of" (defArgs (topS 34)) (defBody (topS 34)) (defScope (topS 34)) .none kV23 dc23 pm23 an23 cd23 ct23), sl23⟩) (c23 : PySem.W.codeIn K cd23 "risks_of" = true) (k23 : PySem.W.keepIn K (.ref f23) = true)
    {f24 : Addr} {oc24 : Value} {od24 an24 : Option Addr} {sl24 : Array (Option Value)} {kV24 dc24 pm24 cd24 ct24 : Value} (a24 : PySem.W.nsIn K mainGlobals "least_of" = some (some (.ref f24))) (l24 : K.lookup f24 = some ⟨oc24, od24, .func (PySem.W.fnOf "least_of" "least_of" (defArgs (topS 35)) (defBody (topS 35)) (defScope (topS 35)) .none kV24 dc24 pm24 an24 cd24 ct24), sl24⟩) (c24 : PySem.W.codeIn K cd24 "least_of" = true) (k24 : PySem.W.keepIn K (.ref f24) = true)
    {f25 : Addr} {oc25 : Value} {od25 an25 : Option Addr} {sl25 : Array (Option Value)} {kV25 dc25 pm25 cd25 ct25 : Value} (a25 : PySem.W.nsIn K mainGlobals "is_valid_belief" = some (some (.ref f25))) (l25 : K.lookup f25 = some ⟨oc25, od25, .func (PySem.W.fnOf "is_valid_belief" "is_valid_belief" (defArgs (topS 37)) (defBody (topS 37)) (defScope (topS 37)) .none kV25 dc25 pm25 an25 cd25 ct25), sl25⟩) (c25 : PySem.W.codeIn K cd25 "is_valid_belief" = true) (k25 : PySem.W.keepIn K (.ref f25) = true)
    {f26 : Addr} {oc26 : Value} {od26 an26 : Option Addr} {sl26 : Array (Option Value)} {kV26 dc26 pm26 cd26 ct26 : Value} (a26 : PySem.W.nsIn K mainGlobals "is_belief" = some (some (.ref f26))) (l26 : K.lookup f26 = some ⟨oc26, od26, .func (PySem.W.fnOf "is_belief" "is_belief" (defArgs (topS 38)) (defBody (topS 38)) (defScope (topS 38)) .none kV26 dc26 pm26 an26 cd26 ct26), sl26⟩) (c26 : PySem.W.codeIn K cd26 "is_belief" = true) (k26 : PySem.W.keepIn K (.ref f26) = true)
    {f27 : Addr} {oc27 : Value} {od27 an27 : Option Addr} {sl27 : Array (Option Value)} {kV27 dc27 pm27 cd27 ct27 : Value} (a27 : PySem.W.nsIn K mainGlobals "require_belief" = some (some (.ref f27))) (l27 : K.lookup f27 = some ⟨oc27, od27, .func (PySem.W.fnOf "require_belief" "require_belief" (defArgs (topS 39)) (defBody (topS 39)) (defScope (topS 39)) .none kV27 dc27 pm27 an27 cd27 ct27), sl27⟩) (c27 : PySem.W.codeIn K cd27 "require_belief" = true) (k27 : PySem.W.keepIn K (.ref f27) = true)
    {f28 : Addr} {oc28 : Value} {od28 an28 : Option Addr} {sl28 : Array (Option Value)} {kV28 dc28 pm28 cd28 ct28 : Value} (a28 : PySem.W.nsIn K mainGlobals "require_observation" = some (some (.ref f28))) (l28 : K.lookup f28 = some ⟨oc28, od28, .func (PySem.W.fnOf "require_observation" "require_observation" (defArgs (topS 40)) (defBody (topS 40)) (defScope (topS 40)) .none kV28 dc28 pm28 an28 cd28 ct28), sl28⟩) (c28 : PySem.W.codeIn K cd28 "require_observation" = true) (k28 : PySem.W.keepIn K (.ref f28) = true)
    {f29 : Addr} {oc29 : Value} {od29 an29 : Option Addr} {sl29 : Array (Option Value)} {kV29 dc29 pm29 cd29 ct29 : Value} (a29 : PySem.W.nsIn K mainGlobals "shares" = some (some (.ref f29))) (l29 : K.lookup f29 = some ⟨oc29, od29, .func (PySem.W.fnOf "shares" "shares" (defArgs (topS 41)) (defBody (topS 41)) (defScope (topS 41)) .none kV29 dc29 pm29 an29 cd29 ct29), sl29⟩) (c29 : PySem.W.codeIn K cd29 "shares" = true) (k29 : PySem.W.keepIn K (.ref f29) = true)
    {f30 : Addr} {oc30 : Value} {od30 an30 : Option Addr} {sl30 : Array (Option Value)} {kV30 dc30 pm30 cd30 ct30 : Value} (a30 : PySem.W.nsIn K mainGlobals "require_all" = some (some (.ref f30))) (l30 : K.lookup f30 = some ⟨oc30, od30, .func (PySem.W.fnOf "require_all" "require_all" (defArgs (topS 42)) (defBody (topS 42)) (defScope (topS 42)) .none kV30 dc30 pm30 an30 cd30 ct30), sl30⟩) (c30 : PySem.W.codeIn K cd30 "require_all" = true) (k30 : PySem.W.keepIn K (.ref f30) = true)
    {f31 : Addr} {oc31 : Value} {od31 an31 : Option Addr} {sl31 : Array (Option Value)} {kV31 dc31 pm31 cd31 ct31 : Value} (a31 : PySem.W.nsIn K mainGlobals "chance" = some (some (.ref f31))) (l31 : K.lookup f31 = some ⟨oc31, od31, .func (PySem.W.fnOf "chance" "chance" (defArgs (topS 43)) (defBody (topS 43)) (defScope (topS 43)) .none kV31 dc31 pm31 an31 cd31 ct31), sl31⟩) (c31 : PySem.W.codeIn K cd31 "chance" = true) (k31 : PySem.W.keepIn K (.ref f31) = true)
    {f32 : Addr} {oc32 : Value} {od32 an32 : Option Addr} {sl32 : Array (Option Value)} {kV32 dc32 pm32 cd32 ct32 : Value} (a32 : PySem.W.nsIn K mainGlobals "belief_after" = some (some (.ref f32))) (l32 : K.lookup f32 = some ⟨oc32, od32, .func (PySem.W.fnOf "belief_after" "belief_after" (defArgs (topS 44)) (defBody (topS 44)) (defScope (topS 44)) .none kV32 dc32 pm32 an32 cd32 ct32), sl32⟩) (c32 : PySem.W.codeIn K cd32 "belief_after" = true) (k32 : PySem.W.keepIn K (.ref f32) = true)
    {f33 : Addr} {oc33 : Value} {od33 an33 : Option Addr} {sl33 : Array (Option Value)} {kV33 dc33 pm33 cd33 ct33 : Value} (a33 : PySem.W.nsIn K mainGlobals "after" = some (some (.ref f33))) (l33 : K.lookup f33 = some ⟨oc33, od33, .func (PySem.W.fnOf "after" "after" (defArgs (topS 45)) (defBody (topS 45)) (defScope (topS 45)) .none kV33 dc33 pm33 an33 cd33 ct33), sl33⟩) (c33 : PySem.W.codeIn K cd33 "after" = true) (k33 : PySem.W.keepIn K (.ref f33) = true)
    {f34 : Addr} {oc34 : Value} {od34 an34 : Option Addr} {sl34 : Array (Option Value)} {kV34 dc34 pm34 cd34 ct34 : Value} (a34 : PySem.W.nsIn K mainGlobals "find_actions" = some (some (.ref f34))) (l34 : K.lookup f34 = some ⟨oc34, od34, .func (PySem.W.fnOf "find_actions" "find_actions" (defArgs (topS 46)) (defBody (topS 46)) (defScope (topS 46)) .none kV34 dc34 pm34 an34 cd34 ct34), sl34⟩) (c34 : PySem.W.codeIn K cd34 "find_actions" = true) (k34 : PySem.W.keepIn K (.ref f34) = true)
    {f35 : Addr} {oc35 : Value} {od35 an35 : Option Addr} {sl35 : Array (Option Value)} {kV35 dc35 pm35 cd35 ct35 : Value} (a35 : PySem.W.nsIn K mainGlobals "best_actions" = some (some (.ref f35))) (l35 : K.lookup f35 = some ⟨oc35, od35, .func (PySem.W.fnOf "best_actions" "best_actions" (defArgs (topS 47)) (defBody (topS 47)) (defScope (topS 47)) .none kV35 dc35 pm35 an35 cd35 ct35), sl35⟩) (c35 : PySem.W.codeIn K cd35 "best_actions" = true) (k35 : PySem.W.keepIn K (.ref f35) = true)
    {f36 : Addr} {oc36 : Value} {od36 an36 : Option Addr} {sl36 : Array (Option Value)} {kV36 dc36 pm36 cd36 ct36 : Value} (a36 : PySem.W.nsIn K mainGlobals "mean_risk" = some (some (.ref f36))) (l36 : K.lookup f36 = some ⟨oc36, od36, .func (PySem.W.fnOf "mean_risk" "mean_risk" (defArgs (topS 48)) (defBody (topS 48)) (defScope (topS 48)) .none kV36 dc36 pm36 an36 cd36 ct36), sl36⟩) (c36 : PySem.W.codeIn K cd36 "mean_risk" = true) (k36 : PySem.W.keepIn K (.ref f36) = true)
    {f37 : Addr} {oc37 : Value} {od37 an37 : Option Addr} {sl37 : Array (Option Value)} {kV37 dc37 pm37 cd37 ct37 : Value} (a37 : PySem.W.nsIn K mainGlobals "find_best" = some (some (.ref f37))) (l37 : K.lookup f37 = some ⟨oc37, od37, .func (PySem.W.fnOf "find_best" "find_best" (defArgs (topS 49)) (defBody (topS 49)) (defScope (topS 49)) .none kV37 dc37 pm37 an37 cd37 ct37), sl37⟩) (c37 : PySem.W.codeIn K cd37 "find_best" = true) (k37 : PySem.W.keepIn K (.ref f37) = true)
    {f38 : Addr} {oc38 : Value} {od38 an38 : Option Addr} {sl38 : Array (Option Value)} {kV38 dc38 pm38 cd38 ct38 : Value} (a38 : PySem.W.nsIn K mainGlobals "require_both" = some (some (.ref f38))) (l38 : K.lookup f38 = some ⟨oc38, od38, .func (PySem.W.fnOf "require_both" "require_both" (defArgs (topS 50)) (defBody (topS 50)) (defScope (topS 50)) .none kV38 dc38 pm38 an38 cd38 ct38), sl38⟩) (c38 : PySem.W.codeIn K cd38 "require_both" = true) (k38 : PySem.W.keepIn K (.ref f38) = true)
    {f39 : Addr} {oc39 : Value} {od39 an39 : Option Addr} {sl39 : Array (Option Value)} {kV39 dc39 pm39 cd39 ct39 : Value} (a39 : PySem.W.nsIn K mainGlobals "least_of_belief" = some (some (.ref f39))) (l39 : K.lookup f39 = some ⟨oc39, od39, .func (PySem.W.fnOf "least_of_belief" "least_of_belief" (defArgs (topS 51)) (defBody (topS 51)) (defScope (topS 51)) .none kV39 dc39 pm39 an39 cd39 ct39), sl39⟩) (c39 : PySem.W.codeIn K cd39 "least_of_belief" = true) (k39 : PySem.W.keepIn K (.ref f39) = true)
    {f40 : Addr} {oc40 : Value} {od40 an40 : Option Addr} {sl40 : Array (Option Value)} {kV40 dc40 pm40 cd40 ct40 : Value} (a40 : PySem.W.nsIn K mainGlobals "least_risk" = some (some (.ref f40))) (l40 : K.lookup f40 = some ⟨oc40, od40, .func (PySem.W.fnOf "least_risk" "least_risk" (defArgs (topS 52)) (defBody (topS 52)) (defScope (topS 52)) .none kV40 dc40 pm40 an40 cd40 ct40), sl40⟩) (c40 : PySem.W.codeIn K cd40 "least_risk" = true) (k40 : PySem.W.keepIn K (.ref f40) = true)
    {f41 : Addr} {oc41 : Value} {od41 an41 : Option Addr} {sl41 : Array (Option Value)} {kV41 dc41 pm41 cd41 ct41 : Value} (a41 : PySem.W.nsIn K mainGlobals "best_rule" = some (some (.ref f41))) (l41 : K.lookup f41 = some ⟨oc41, od41, .func (PySem.W.fnOf "best_rule" "best_rule" (defArgs (topS 53)) (defBody (topS 53)) (defScope (topS 53)) .none kV41 dc41 pm41 an41 cd41 ct41), sl41⟩) (c41 : PySem.W.codeIn K cd41 "best_rule" = true) (k41 : PySem.W.keepIn K (.ref f41) = true)
    {f42 : Addr} {oc42 : Value} {od42 an42 : Option Addr} {sl42 : Array (Option Value)} {kV42 dc42 pm42 cd42 ct42 : Value} (a42 : PySem.W.nsIn K mainGlobals "_law_draw" = some (some (.ref f42))) (l42 : K.lookup f42 = some ⟨oc42, od42, .func (PySem.W.fnOf "_law_draw" "_law_draw" (defArgs (topS 55)) (defBody (topS 55)) (defScope (topS 55)) .none kV42 dc42 pm42 an42 cd42 ct42), sl42⟩) (c42 : PySem.W.codeIn K cd42 "_law_draw" = true) (k42 : PySem.W.keepIn K (.ref f42) = true)
    {f43 : Addr} {oc43 : Value} {od43 an43 : Option Addr} {sl43 : Array (Option Value)} {kV43 dc43 pm43 cd43 ct43 : Value} (a43 : PySem.W.nsIn K mainGlobals "_law_fraction" = some (some (.ref f43))) (l43 : K.lookup f43 = some ⟨oc43, od43, .func (PySem.W.fnOf "_law_fraction" "_law_fraction" (defArgs (topS 56)) (defBody (topS 56)) (defScope (topS 56)) .none kV43 dc43 pm43 an43 cd43 ct43), sl43⟩) (c43 : PySem.W.codeIn K cd43 "_law_fraction" = true) (k43 : PySem.W.keepIn K (.ref f43) = true)
    {f44 : Addr} {oc44 : Value} {od44 an44 : Option Addr} {sl44 : Array (Option Value)} {kV44 dc44 pm44 cd44 ct44 : Value} (a44 : PySem.W.nsIn K mainGlobals "_law_plus" = some (some (.ref f44))) (l44 : K.lookup f44 = some ⟨oc44, od44, .func (PySem.W.fnOf "_law_plus" "_law_plus" (defArgs (topS 57)) (defBody (topS 57)) (defScope (topS 57)) .none kV44 dc44 pm44 an44 cd44 ct44), sl44⟩) (c44 : PySem.W.codeIn K cd44 "_law_plus" = true) (k44 : PySem.W.keepIn K (.ref f44) = true)
    {f45 : Addr} {oc45 : Value} {od45 an45 : Option Addr} {sl45 : Array (Option Value)} {kV45 dc45 pm45 cd45 ct45 : Value} (a45 : PySem.W.nsIn K mainGlobals "_law_times" = some (some (.ref f45))) (l45 : K.lookup f45 = some ⟨oc45, od45, .func (PySem.W.fnOf "_law_times" "_law_times" (defArgs (topS 58)) (defBody (topS 58)) (defScope (topS 58)) .none kV45 dc45 pm45 an45 cd45 ct45), sl45⟩) (c45 : PySem.W.codeIn K cd45 "_law_times" = true) (k45 : PySem.W.keepIn K (.ref f45) = true)
    {f46 : Addr} {oc46 : Value} {od46 an46 : Option Addr} {sl46 : Array (Option Value)} {kV46 dc46 pm46 cd46 ct46 : Value} (a46 : PySem.W.nsIn K mainGlobals "_law_below" = some (some (.ref f46))) (l46 : K.lookup f46 = some ⟨oc46, od46, .func (PySem.W.fnOf "_law_below" "_law_below" (defArgs (topS 59)) (defBody (topS 59)) (defScope (topS 59)) .none kV46 dc46 pm46 an46 cd46 ct46), sl46⟩) (c46 : PySem.W.codeIn K cd46 "_law_below" = true) (k46 : PySem.W.keepIn K (.ref f46) = true)
    {f47 : Addr} {oc47 : Value} {od47 an47 : Option Addr} {sl47 : Array (Option Value)} {kV47 dc47 pm47 cd47 ct47 : Value} (a47 : PySem.W.nsIn K mainGlobals "_law_spread" = some (some (.ref f47))) (l47 : K.lookup f47 = some ⟨oc47, od47, .func (PySem.W.fnOf "_law_spread" "_law_spread" (defArgs (topS 60)) (defBody (topS 60)) (defScope (topS 60)) .none kV47 dc47 pm47 an47 cd47 ct47), sl47⟩) (c47 : PySem.W.codeIn K cd47 "_law_spread" = true) (k47 : PySem.W.keepIn K (.ref f47) = true)
    {f48 : Addr} {oc48 : Value} {od48 an48 : Option Addr} {sl48 : Array (Option Value)} {kV48 dc48 pm48 cd48 ct48 : Value} (a48 : PySem.W.nsIn K mainGlobals "_law_chances" = some (some (.ref f48))) (l48 : K.lookup f48 = some ⟨oc48, od48, .func (PySem.W.fnOf "_law_chances" "_law_chances" (defArgs (topS 61)) (defBody (topS 61)) (defScope (topS 61)) .none kV48 dc48 pm48 an48 cd48 ct48), sl48⟩) (c48 : PySem.W.codeIn K cd48 "_law_chances" = true) (k48 : PySem.W.keepIn K (.ref f48) = true)
    {f49 : Addr} {oc49 : Value} {od49 an49 : Option Addr} {sl49 : Array (Option Value)} {kV49 dc49 pm49 cd49 ct49 : Value} (a49 : PySem.W.nsIn K mainGlobals "_law_model" = some (some (.ref f49))) (l49 : K.lookup f49 = some ⟨oc49, od49, .func (PySem.W.fnOf "_law_model" "_law_model" (defArgs (topS 62)) (defBody (topS 62)) (defScope (topS 62)) .none kV49 dc49 pm49 an49 cd49 ct49), sl49⟩) (c49 : PySem.W.codeIn K cd49 "_law_model" = true) (k49 : PySem.W.keepIn K (.ref f49) = true)
    {f50 : Addr} {oc50 : Value} {od50 an50 : Option Addr} {sl50 : Array (Option Value)} {kV50 dc50 pm50 cd50 ct50 : Value} (a50 : PySem.W.nsIn K mainGlobals "_law_losses" = some (some (.ref f50))) (l50 : K.lookup f50 = some ⟨oc50, od50, .func (PySem.W.fnOf "_law_losses" "_law_losses" (defArgs (topS 63)) (defBody (topS 63)) (defScope (topS 63)) .none kV50 dc50 pm50 an50 cd50 ct50), sl50⟩) (c50 : PySem.W.codeIn K cd50 "_law_losses" = true) (k50 : PySem.W.keepIn K (.ref f50) = true)
    {f51 : Addr} {oc51 : Value} {od51 an51 : Option Addr} {sl51 : Array (Option Value)} {kV51 dc51 pm51 cd51 ct51 : Value} (a51 : PySem.W.nsIn K mainGlobals "_law_pure" = some (some (.ref f51))) (l51 : K.lookup f51 = some ⟨oc51, od51, .func (PySem.W.fnOf "_law_pure" "_law_pure" (defArgs (topS 64)) (defBody (topS 64)) (defScope (topS 64)) .none kV51 dc51 pm51 an51 cd51 ct51), sl51⟩) (c51 : PySem.W.codeIn K cd51 "_law_pure" = true) (k51 : PySem.W.keepIn K (.ref f51) = true)
    {f52 : Addr} {oc52 : Value} {od52 an52 : Option Addr} {sl52 : Array (Option Value)} {kV52 dc52 pm52 cd52 ct52 : Value} (a52 : PySem.W.nsIn K mainGlobals "_law_mixed" = some (some (.ref f52))) (l52 : K.lookup f52 = some ⟨oc52, od52, .func (PySem.W.fnOf "_law_mixed" "_law_mixed" (defArgs (topS 65)) (defBody (topS 65)) (defScope (topS 65)) .none kV52 dc52 pm52 an52 cd52 ct52), sl52⟩) (c52 : PySem.W.codeIn K cd52 "_law_mixed" = true) (k52 : PySem.W.keepIn K (.ref f52) = true)
    {f53 : Addr} {oc53 : Value} {od53 an53 : Option Addr} {sl53 : Array (Option Value)} {kV53 dc53 pm53 cd53 ct53 : Value} (a53 : PySem.W.nsIn K mainGlobals "_law_only_best" = some (some (.ref f53))) (l53 : K.lookup f53 = some ⟨oc53, od53, .func (PySem.W.fnOf "_law_only_best" "_law_only_best" (defArgs (topS 66)) (defBody (topS 66)) (defScope (topS 66)) .none kV53 dc53 pm53 an53 cd53 ct53), sl53⟩) (c53 : PySem.W.codeIn K cd53 "_law_only_best" = true) (k53 : PySem.W.keepIn K (.ref f53) = true)
    {f54 : Addr} {oc54 : Value} {od54 an54 : Option Addr} {sl54 : Array (Option Value)} {kV54 dc54 pm54 cd54 ct54 : Value} (a54 : PySem.W.nsIn K mainGlobals "_law_adds_up" = some (some (.ref f54))) (l54 : K.lookup f54 = some ⟨oc54, od54, .func (PySem.W.fnOf "_law_adds_up" "_law_adds_up" (defArgs (topS 67)) (defBody (topS 67)) (defScope (topS 67)) .none kV54 dc54 pm54 an54 cd54 ct54), sl54⟩) (c54 : PySem.W.codeIn K cd54 "_law_adds_up" = true) (k54 : PySem.W.keepIn K (.ref f54) = true)
    {f55 : Addr} {oc55 : Value} {od55 an55 : Option Addr} {sl55 : Array (Option Value)} {kV55 dc55 pm55 cd55 ct55 : Value} (a55 : PySem.W.nsIn K mainGlobals "law" = some (some (.ref f55))) (l55 : K.lookup f55 = some ⟨oc55, od55, .func (PySem.W.fnOf "law" "law" (defArgs (topS 68)) (defBody (topS 68)) (defScope (topS 68)) .none kV55 dc55 pm55 an55 cd55 ct55), sl55⟩) (c55 : PySem.W.codeIn K cd55 "law" = true) (k55 : PySem.W.keepIn K (.ref f55) = true)
    (A0 : Addr) (xa0 : PySem.W.nsIn K mainGlobals "InvalidModel" = some (some (.ref A0))) (xq0 : PySem.W.excIn K A0 [.type "ValueError", .type "Exception", .type "BaseException", .type "object"] "ValueError.__new__" = true) (xk0 : PySem.W.keepIn K (.ref A0) = true) (xs0 : PySem.W.subIn K (.ref A0) (.type "BaseException") = some true) (xt0 : PySem.W.typeIn K (.ref A0) = some (.type "type"))
    (A1 : Addr) (xa1 : PySem.W.nsIn K mainGlobals "InvalidLosses" = some (some (.ref A1))) (xq1 : PySem.W.excIn K A1 [.type "ValueError", .type "Exception", .type "BaseException", .type "object"] "ValueError.__new__" = true) (xk1 : PySem.W.keepIn K (.ref A1) = true) (xs1 : PySem.W.subIn K (.ref A1) (.type "BaseException") = some true) (xt1 : PySem.W.typeIn K (.ref A1) = some (.type "type"))
    (A2 : Addr) (xa2 : PySem.W.nsIn K mainGlobals "InvalidRule" = some (some (.ref A2))) (xq2 : PySem.W.excIn K A2 [.type "ValueError", .type "Exception", .type "BaseException", .type "object"] "ValueError.__new__" = true) (xk2 : PySem.W.keepIn K (.ref A2) = true) (xs2 : PySem.W.subIn K (.ref A2) (.type "BaseException") = some true) (xt2 : PySem.W.typeIn K (.ref A2) = some (.type "type"))
    (A3 : Addr) (xa3 : PySem.W.nsIn K mainGlobals "InvalidMixed" = some (some (.ref A3))) (xq3 : PySem.W.excIn K A3 [.type "ValueError", .type "Exception", .type "BaseException", .type "object"] "ValueError.__new__" = true) (xk3 : PySem.W.keepIn K (.ref A3) = true) (xs3 : PySem.W.subIn K (.ref A3) (.type "BaseException") = some true) (xt3 : PySem.W.typeIn K (.ref A3) = some (.type "type"))
    (A4 : Addr) (xa4 : PySem.W.nsIn K mainGlobals "InvalidBelief" = some (some (.ref A4))) (xq4 : PySem.W.excIn K A4 [.type "ValueError", .type "Exception", .type "BaseException", .type "object"] "ValueError.__new__" = true) (xk4 : PySem.W.keepIn K (.ref A4) = true) (xs4 : PySem.W.subIn K (.ref A4) (.type "BaseException") = some true) (xt4 : PySem.W.typeIn K (.ref A4) = some (.type "type"))
    (A5 : Addr) (xa5 : PySem.W.nsIn K mainGlobals "InvalidObservation" = some (some (.ref A5))) (xq5 : PySem.W.excIn K A5 [.type "ValueError", .type "Exception", .type "BaseException", .type "object"] "ValueError.__new__" = true) (xk5 : PySem.W.keepIn K (.ref A5) = true) (xs5 : PySem.W.subIn K (.ref A5) (.type "BaseException") = some true) (xt5 : PySem.W.typeIn K (.ref A5) = some (.type "type"))
    (xe : exEqM K (fun i => List.getD [0, A0, A1, A2, A3, A4, A5, 0, 0, 0, 0, 0, 0, 0, 0, 0, 0, 0, 0, 0] i 0) exN = true)
    : Tab K mg (fun i => List.getD [0, A0, A1, A2, A3, A4, A5, 0, 0, 0, 0, 0, 0, 0, 0, 0, 0, 0, 0, 0] i 0) :=
  ⟨bts_of X G (all_cons z0 (all_cons z1 (all_cons z2 (all_cons z3 (all_cons z4 (all_cons z5 (all_cons z6 (all_cons z7 (all_cons z8 (all_cons z9 (all_cons z10 (all_cons z11 (all_cons z12 (all_cons z13 (all_cons z14 (all_cons z15 all_nil)))))))))))))))),
   def_at X G a0 l0 c0 k0 fun _ _ _ _ _ _ us hl => match us, hl with | [_, _], _ => rfl,
   def_at X G a1 l1 c1 k1 fun _ _ _ _ _ _ us hl => match us, hl with | [_, _], _ => rfl,
   def_at X G a2 l2 c2 k2 fun _ _ _ _ _ _ us hl => match us, hl with | [_], _ => rfl,
   def_at X G a3 l3 c3 k3 fun _ _ _ _ _ _ us hl => match us, hl with | [_, _], _ => rfl,
   def_at X G a4 l4 c4 k4 fun _ _ _ _ _ _ us hl => match us, hl with | [_, _], _ => rfl,
   def_at X G a5 l5 c5 k5 fun _ _ _ _ _ _ us hl => match us, hl with | [_, _], _ => rfl,
   def_at X G a6 l6 c6 k6 fun _ _ _ _ _ _ us hl => match us, hl with | [_, _], _ => rfl,
   def_at X G a7 l7 c7 k7 fun _ _ _ _ _ _ us hl => match us, hl with | [_], _ => rfl,
   def_at X G a8 l8 c8 k8 fun _ _ _ _ _ _ us hl => match us, hl with | [_], _ => rfl,
   def_at X G a9 l9 c9 k9 fun _ _ _ _ _ _ us hl => match us, hl with | [_, _], _ => rfl,
   def_at X G a10 l10 c10 k10 fun _ _ _ _ _ _ us hl => match us, hl with | [_, _, _], _ => rfl,
   def_at X G a11 l11 c11 k11 fun _ _ _ _ _ _ us hl => match us, hl with | [_, _, _], _ => rfl,
   def_at X G a12 l12 c12 k12 fun _ _ _ _ _ _ us hl => match us, hl with | [_], _ => rfl,
   def_at X G a13 l13 c13 k13 fun _ _ _ _ _ _ us hl => match us, hl with | [_], _ => rfl,
   def_at X G a14 l14 c14 k14 fun _ _ _ _ _ _ us hl => match us, hl with | [_, _], _ => rfl,
   def_at X G a15 l15 c15 k15 fun _ _ _ _ _ _ us hl => match us, hl with | [_, _], _ => rfl,
   def_at X G a16 l16 c16 k16 fun _ _ _ _ _ _ us hl => match us, hl with | [_, _, _], _ => rfl,
   def_at X G a17 l17 c17 k17 fun _ _ _ _ _ _ us hl => match us, hl with | [_, _, _], _ => rfl,
   def_at X G a18 l18 c18 k18 fun _ _ _ _ _ _ us hl => match us, hl with | [_, _, _], _ => rfl,
   def_at X G a19 l19 c19 k19 fun _ _ _ _ _ _ us hl => match us, hl with | [_, _, _], _ => rfl,
   def_at X G a20 l20 c20 k20 fun _ _ _ _ _ _ us hl => match us, hl with | [_, _], _ => rfl,
   def_at X G a21 l21 c21 k21 fun _ _ _ _ _ _ us hl => match us, hl with | [_, _, _], _ => rfl,
   def_at X G a22 l22 c22 k22 fun _ _ _ _ _ _ us hl => match us, hl with | [_, _, _], _ => rfl,
   def_at X G a23 l23 c23 k23 fun _ _ _ _ _ _ us hl => match us, hl with | [_, _, _], _ => rfl,
   def_at X G a24 l24 c24 k24 fun _ _ _ _ _ _ us hl => match us, hl with | [_], _ => rfl,
   def_at X G a25 l25 c25 k25 fun _ _ _ _ _ _ us hl => match us, hl with | [_, _], _ => rfl,
   def_at X G a26 l26 c26 k26 fun _ _ _ _ _ _ us hl => match us, hl with | [_, _], _ => rfl,
   def_at X G a27 l27 c27 k27 fun _ _ _ _ _ _ us hl => match us, hl with | [_, _], _ => rfl,
   def_at X G a28 l28 c28 k28 fun _ _ _ _ _ _ us hl => match us, hl with | [_, _], _ => rfl,
   def_at X G a29 l29 c29 k29 fun _ _ _ _ _ _ us hl => match us, hl with | [_, _, _], _ => rfl,
   def_at X G a30 l30 c30 k30 fun _ _ _ _ _ _ us hl => match us, hl with | [_, _, _], _ => rfl,
   def_at X G a31 l31 c31 k31 fun _ _ _ _ _ _ us hl => match us, hl with | [_, _, _], _ => rfl,
   def_at X G a32 l32 c32 k32 fun _ _ _ _ _ _ us hl => match us, hl with | [_, _, _], _ => rfl,
   def_at X G a33 l33 c33 k33 fun _ _ _ _ _ _ us hl => match us, hl with | [_, _, _], _ => rfl,
   def_at X G a34 l34 c34 k34 fun _ _ _ _ _ _ us hl => match us, hl with | [_, _], _ => rfl,
   def_at X G a35 l35 c35 k35 fun _ _ _ _ _ _ us hl => match us, hl with | [_, _, _, _], _ => rfl,
   def_at X G a36 l36 c36 k36 fun _ _ _ _ _ _ us hl => match us, hl with | [_, _, _, _], _ => rfl,
   def_at X G a37 l37 c37 k37 fun _ _ _ _ _ _ us hl => match us, hl with | [_, _, _], _ => rfl,
   def_at X G a38 l38 c38 k38 fun _ _ _ _ _ _ us hl => match us, hl with | [_, _, _], _ => rfl,
   def_at X G a39 l39 c39 k39 fun _ _ _ _ _ _ us hl => match us, hl with | [_, _, _], _ => rfl,
   def_at X G a40 l40 c40 k40 fun _ _ _ _ _ _ us hl => match us, hl with | [_, _, _], _ => rfl,
   def_at X G a41 l41 c41 k41 fun _ _ _ _ _ _ us hl => match us, hl with | [_, _, _], _ => rfl,
   def_at X G a42 l42 c42 k42 fun _ _ _ _ _ _ us hl => match us, hl with | [_, _, _], _ => rfl,
   def_at X G a43 l43 c43 k43 fun _ _ _ _ _ _ us hl => match us, hl with | [_, _], _ => rfl,
   def_at X G a44 l44 c44 k44 fun _ _ _ _ _ _ us hl => match us, hl with | [_, _], _ => rfl,
   def_at X G a45 l45 c45 k45 fun _ _ _ _ _ _ us hl => match us, hl with | [_, _], _ => rfl,
   def_at X G a46 l46 c46 k46 fun _ _ _ _ _ _ us hl => match us, hl with | [_, _], _ => rfl,
   def_at X G a47 l47 c47 k47 fun _ _ _ _ _ _ us hl => match us, hl with | [_], _ => rfl,
   def_at X G a48 l48 c48 k48 fun _ _ _ _ _ _ us hl => match us, hl with | [_, _, _], _ => rfl,
   def_at X G a49 l49 c49 k49 fun _ _ _ _ _ _ us hl => match us, hl with | [_, _, _], _ => rfl,
   def_at X G a50 l50 c50 k50 fun _ _ _ _ _ _ us hl => match us, hl with | [_, _, _], _ => rfl,
   def_at X G a51 l51 c51 k51 fun _ _ _ _ _ _ us hl => match us, hl with | [_, _], _ => rfl,
   def_at X G a52 l52 c52 k52 fun _ _ _ _ _ _ us hl => match us, hl with | [_, _, _, _], _ => rfl,
   def_at X G a53 l53 c53 k53 fun _ _ _ _ _ _ us hl => match us, hl with | [_, _, _, _], _ => rfl,
   def_at X G a54 l54 c54 k54 fun _ _ _ _ _ _ us hl => match us, hl with | [_, _], _ => rfl,
   def_at X G a55 l55 c55 k55 fun _ _ _ _ _ _ us hl => match us, hl with | [_], _ => rfl,
   fun x c e => exM_get (K := K) (mg := mg) (xa := (fun i => List.getD [0, A0, A1, A2, A3, A4, A5, 0, 0, 0, 0, 0, 0, 0, 0, 0, 0, 0, 0, 0] i 0)) (l := exN) (show ExM K mg (fun i => List.getD [0, A0, A1, A2, A3, A4, A5, 0, 0, 0, 0, 0, 0, 0, 0, 0, 0, 0, 0, 0] i 0) exN from (And.intro (ex_at (xa := (fun i => List.getD [0, A0, A1, A2, A3, A4, A5, 0, 0, 0, 0, 0, 0, 0, 0, 0, 0, 0, 0, 0] i 0)) X G PySem.F.excBase_ValueError xa0 xq0 xk0 xs0 xt0) (And.intro (ex_at (xa := (fun i => List.getD [0, A0, A1, A2, A3, A4, A5, 0, 0, 0, 0, 0, 0, 0, 0, 0, 0, 0, 0, 0] i 0)) X G PySem.F.excBase_ValueError xa1 xq1 xk1 xs1 xt1) (And.intro (ex_at (xa := (fun i => List.getD [0, A0, A1, A2, A3, A4, A5, 0, 0, 0, 0, 0, 0, 0, 0, 0, 0, 0, 0, 0] i 0)) X G PySem.F.excBase_ValueError xa2 xq2 xk2 xs2 xt2) (And.intro (ex_at (xa := (fun i => List.getD [0, A0, A1, A2, A3, A4, A5, 0, 0, 0, 0, 0, 0, 0, 0, 0, 0, 0, 0, 0] i 0)) X G PySem.F.excBase_ValueError xa3 xq3 xk3 xs3 xt3) (And.intro (ex_at (xa := (fun i => List.getD [0, A0, A1, A2, A3, A4, A5, 0, 0, 0, 0, 0, 0, 0, 0, 0, 0, 0, 0, 0] i 0)) X G PySem.F.excBase_ValueError xa4 xq4 xk4 xs4 xt4) (And.intro (ex_at (xa := (fun i => List.getD [0, A0, A1, A2, A3, A4, A5, 0, 0, 0, 0, 0, 0, 0, 0, 0, 0, 0, 0, 0] i 0)) X G PySem.F.excBase_ValueError xa5 xq5 xk5 xs5 xt5) True.intro))))))) x c e,
   exEqM_of xe⟩
end K06

/-! Plain: reading the evaluator from the outside in (each rule takes what follows along). -/
namespace Mn
open PySem

/-- so that a step is a step (the kernel need not find it) -/
theorem nrfl {α : Sort _} {a b : α} (h : a = b) (_ : True) : a = b := h
@[irreducible] def Res.cps {α β : Type} (r : Res α) (k : α → Store → β) (x : Nat → Store → β) (z : β) : β := match r with
  | .ok a S => k a S
  | .exc c S => x c S
  | .stuck => z
def tcase {β : Type} (o : Option Bool) (a b z : β) : β := match o with
  | some true => a
  | some false => b
  | none => z
def tcaseB {β : Type} (t : D) (a b z : β) : β := match t with
  | .bl true => a
  | .bl false => b
  | _ => z
@[simp ↓] theorem tcaseB_bl {β : Type} {p : Bool} {a b z : β} : tcaseB (.bl p) a b z = if p = true then a else b := by cases p <;> rfl
section
variable {α β γ : Type} {k : α → Store → β} {x : Nat → Store → β} {z : β} {a : α} {S : Store} {c : Nat}
@[simp ↓] theorem cps_ok : (Res.ok a S).cps k x z = k a S := by unfold Res.cps; rfl
@[simp ↓] theorem cps_exc : (Res.exc c S : Res α).cps k x z = x c S := by unfold Res.cps; rfl
@[simp ↓] theorem cps_stuck : (Res.stuck : Res α).cps k x z = z := by unfold Res.cps; rfl
@[simp ↓] theorem bind_is {r : Res α} {f : α → Store → Res γ} : r.bind f = r.cps f (fun c S => .exc c S) .stuck := by cases r <;> (unfold Res.cps; rfl)
@[simp ↓] theorem st_is {r : Res α} {ρ : Env} {f : α → Store → SRes} : r.st ρ f = r.cps f (fun c S => .exc c ρ S) .stuck := by cases r <;> (unfold Res.cps; rfl)
@[simp ↓] theorem only_is {r : Res α} {f : α → Store → Res γ} : r.only f = r.cps f (fun _ _ => .stuck) .stuck := by cases r <;> (unfold Res.cps; rfl)
@[simp ↓] theorem cps_cps {r : Res α} {f : α → Store → Res γ} {k : γ → Store → β} : (r.cps f (fun c S => .exc c S) .stuck).cps k x z = r.cps (fun a S => (f a S).cps k x z) x z := by cases r <;> (unfold Res.cps; rfl)
@[simp ↓] theorem bind_cps {r : Res α} {f : α → Store → Res γ} {k : γ → Store → β} : (r.bind f).cps k x z = r.cps (fun a S => (f a S).cps k x z) x z := by cases r <;> (unfold Res.cps; rfl)
theorem nx_of {ρ : Env} {r : SRes} {f : Env → Store → SRes} (h : r = .nx ρ S) : r.seq f = f ρ S := by rw [h]; rfl
theorem rt_of {d : D} {r : SRes} {f : Env → Store → SRes} (h : r = .rt d S) : r.seq f = .rt d S := by rw [h]; rfl
theorem cps_of {r : Res α} (h : r = .ok a S) : r.cps k x z = k a S := by rw [h]; unfold Res.cps; rfl
@[simp ↓] theorem tcase_some {p : Bool} {a b z : β} : tcase (some p) a b z = if p = true then a else b := by cases p <;> rfl
@[simp ↓] theorem seq_nx {ρ : Env} {f : Env → Store → SRes} : (SRes.nx ρ S).seq f = f ρ S := nrfl rfl trivial
@[simp ↓] theorem seq_rt {d : D} {f : Env → Store → SRes} : (SRes.rt d S).seq f = .rt d S := nrfl rfl trivial
@[simp ↓] theorem seq_exc {ρ : Env} {f : Env → Store → SRes} : (SRes.exc c ρ S).seq f = .exc c ρ S := nrfl rfl trivial
@[simp ↓] theorem seq_stuck {f : Env → Store → SRes} : (SRes.stuck).seq f = .stuck := nrfl rfl trivial
@[simp ↓] theorem seq_ite {p : Prop} [Decidable p] {a b : SRes} {f : Env → Store → SRes} : (if p then a else b).seq f = if p then a.seq f else b.seq f := by split <;> rfl
@[simp ↓] theorem cps_ite {p : Prop} [Decidable p] {a b : Res α} : (if p then a else b).cps k x z = if p then a.cps k x z else b.cps k x z := by split <;> rfl
end

/-! ### terms -/
def negD (d : D) (S : Store) : Res D := match d with | .int i => .ok (.int (-i)) S | _ => .stuck
def isiD (d : D) (t : Ty) (S : Store) : Res D := match isD S d t with | some k => .ok (.bl k) S | none => .stuck
def iterD (d : D) (S : Store) : Res (List D × Src) := match seqOf S d with
  | some (_, ds) => .ok (ds, srcOf d ds) S
  | none => match d with
    | .str s => .ok (s.cps.toList.map fun c => .str ⟨#[c]⟩, []) S
    | _ => .stuck
def rng1D (d : D) (S : Store) : Res (List D × Src) := match d with
  | .int j => if -lim ≤ j ∧ j < lim then .ok (rngD 0 j.toNat, []) S else .stuck
  | _ => .stuck
def rng2D (d e : D) (S : Store) : Res (List D × Src) := match d, e with
  | .int i, .int j => if (-lim ≤ i ∧ i < lim) ∧ -lim ≤ j ∧ j < lim then .ok (rngD i (j - i).toNat, []) S else .stuck
  | _, _ => .stuck
def enumSD (d : D) (S : Store) : Res (List D × Src) := match seqOf S d with
  | some (_, ds) => .ok (enumD 0 ds, srcOf d ds) S
  | none => .stuck
def zipSD (d g : D) (S : Store) : Res (List D × Src) := match seqOf S d, seqOf S g with
  | some (_, ds), some (_, gs) => .ok (zipD ds gs, srcOf d ds ++ srcOf g gs) S
  | _, _ => .stuck
def bmS (b : Nat) (m : Bool) (o : Bm) (d : D) (ds : List D) (S : Store) : Res D := bmD b m o d ds S
def lcS (b : Nat) (own : List Nat) (elt : ME) (tg : Pat) (c : MO) (ρ : Env) (src : Src) (items : List D) (S : Store) : Res (List D) := lcL src (evC b tg c elt own ρ) items [] S
def rdV (o : Option (Option D)) (S : Store) : Res D := match o with
  | some (some d) => .ok d S
  | _ => .stuck
@[simp ↓] theorem rdV_some {d : D} {S : Store} : rdV (some (some d)) S = .ok d S := nrfl rfl trivial
def rdF (o : Option (Option D)) (S : Store) : Res D := match o with
  | some (some (.ref n)) => match S[n]? with
      | some (.lst ds) => .ok (.lst ds) (S.set n (.frz ds))
      | some (.frz ds) => .ok (.lst ds) S
      | _ => .stuck
  | _ => .stuck
section
variable {β : Type} {b : Nat} {ρ : Env} {S : Store} {x : Nat → Store → β} {z : β}
section
variable {k : D → Store → β}
@[simp ↓] theorem ev_var {i : Nat} : (evE b (.var i) ρ S).cps k x z = (rdV (ρ[i]?) S).cps k x z := by first | exact nrfl rfl trivial | (unfold Res.cps; rfl)
@[simp ↓] theorem ev_frz {i : Nat} : (evE b (.frz i) ρ S).cps k x z = (rdF (ρ[i]?) S).cps k x z := by first | exact nrfl rfl trivial | (unfold Res.cps; rfl)
@[simp ↓] theorem ev_cst {d : D} : (evE b (.cst d) ρ S).cps k x z = k d S := by first | exact nrfl rfl trivial | (unfold Res.cps; rfl)
@[simp ↓] theorem ev_tup {es : MEs} : (evE b (.tup es) ρ S).cps k x z = (evEs b es ρ S).cps (fun ds S1 => (newT ds S1).cps k x z) x z := by rw [evE, bind_cps]
@[simp ↓] theorem ev_lst {m : Bool} {es : MEs} : (evE b (.lst m es) ρ S).cps k x z = (evEs b es ρ S).cps (fun ds S1 => (newL m ds S1).cps k x z) x z := by rw [evE, bind_cps]
@[simp ↓] theorem ev_bin {m : Bool} {o : Bop} {p q : ME} : (evE b (.bin m o p q) ρ S).cps k x z = (evE b p ρ S).cps (fun d S1 => (evE b q ρ S1).cps (fun e S2 => (binD m o d e S2).cps k x z) x z) x z := by
  rw [evE, bind_cps]; congr 1; funext d S1; rw [bind_cps]
@[simp ↓] theorem ev_neg {p : ME} : (evE b (.neg p) ρ S).cps k x z = (evE b p ρ S).cps (fun d S1 => (negD d S1).cps k x z) x z := by
  rw [evE, bind_cps]; rfl
@[simp ↓] theorem ev_not {p : ME} : (evE b (.not_ p) ρ S).cps k x z = (evE b p ρ S).cps (fun d S1 => tcase (truD S1 d) (k (.bl false) S1) (k (.bl true) S1) z) x z := by
  rw [evE, bind_cps]; congr 1; funext d S1
  cases truD S1 d with
  | none => first | rfl | (unfold Res.cps; rfl)
  | some t => cases t <;> first | rfl | (unfold Res.cps; rfl)
@[simp ↓] theorem ev_cmp {o : Cop} {p q : ME} : (evE b (.cmp o p q) ρ S).cps k x z = (evE b p ρ S).cps (fun d S1 => (evE b q ρ S1).cps (fun e S2 => (cmpD o d e S2).cps k x z) x z) x z := by
  rw [evE, bind_cps]; congr 1; funext d S1; rw [bind_cps]
@[simp ↓] theorem ev_chain {o p : Cop} {u v w : ME} : (evE b (.chain o p u v w) ρ S).cps k x z = (evE b u ρ S).cps (fun d S1 => (evE b v ρ S1).cps (fun e S2 => (cmpD o d e S2).cps (fun t S3 => tcaseB t ((evE b w ρ S3).cps (fun f S4 => (cmpD p e f S4).cps k x z) x z) (k (.bl false) S3) z) x z) x z) x z := by
  rw [evE, bind_cps]; congr 1; funext d S1; rw [bind_cps]; congr 1; funext e S2; rw [bind_cps]; congr 1; funext t S3
  cases t with
  | bl t => cases t <;> first | rfl | (unfold Res.cps; rfl; done) | (show ((evE b w ρ S3).bind _).cps k x z = _; rw [bind_cps]; rfl)
  | _ => first | rfl | (unfold Res.cps; rfl)
@[simp ↓] theorem ev_ite {c p q : ME} : (evE b (.ite c p q) ρ S).cps k x z = (evE b c ρ S).cps (fun d S1 => tcase (truD S1 d) ((evE b p ρ S1).cps k x z) ((evE b q ρ S1).cps k x z) z) x z := by
  rw [evE, bind_cps]; congr 1; funext d S1
  cases truD S1 d with
  | none => first | rfl | (unfold Res.cps; rfl)
  | some t => cases t <;> first | rfl | (unfold Res.cps; rfl)
@[simp ↓] theorem ev_and {es : MEs} : (evE b (.and_ es) ρ S).cps k x z = (evA b es ρ S).cps k x z := by rw [evE]
@[simp ↓] theorem ev_or {es : MEs} : (evE b (.or_ es) ρ S).cps k x z = (evR b es ρ S).cps k x z := by rw [evE]
@[simp ↓] theorem ev_a1 {e : ME} : (evA b (.cons e .nil) ρ S).cps k x z = (evE b e ρ S).cps k x z := by rw [evA]
@[simp ↓] theorem ev_r1 {e : ME} : (evR b (.cons e .nil) ρ S).cps k x z = (evE b e ρ S).cps k x z := by rw [evR]
@[simp ↓] theorem ev_a2 {e f : ME} {es : MEs} : (evA b (.cons e (.cons f es)) ρ S).cps k x z = (evE b e ρ S).cps (fun d S1 => tcase (truD S1 d) ((evA b (.cons f es) ρ S1).cps k x z) (k d S1) z) x z := by
  rw [evA, bind_cps]; congr 1; funext d S1
  cases truD S1 d with
  | none => first | rfl | (unfold Res.cps; rfl)
  | some t => cases t <;> first | rfl | (unfold Res.cps; rfl)
@[simp ↓] theorem ev_r2 {e f : ME} {es : MEs} : (evR b (.cons e (.cons f es)) ρ S).cps k x z = (evE b e ρ S).cps (fun d S1 => tcase (truD S1 d) (k d S1) ((evR b (.cons f es) ρ S1).cps k x z) z) x z := by
  rw [evR, bind_cps]; congr 1; funext d S1
  cases truD S1 d with
  | none => first | rfl | (unfold Res.cps; rfl)
  | some t => cases t <;> first | rfl | (unfold Res.cps; rfl)
@[simp ↓] theorem ev_ix {p q : ME} : (evE b (.ix p q) ρ S).cps k x z = (evE b p ρ S).cps (fun d S1 => (evE b q ρ S1).cps (fun e S2 => (ixS d e S2).cps k x z) x z) x z := by
  rw [evE, bind_cps]; congr 1; funext d S1; rw [bind_cps]
@[simp ↓] theorem ev_sl {m : Bool} {p : ME} {lo hi : MO} : (evE b (.sl m p lo hi) ρ S).cps k x z = (evE b p ρ S).cps (fun d S1 => (evO b lo ρ S1).cps (fun l S2 => if (intO l).isSome = true then (evO b hi ρ S2).cps (fun h S3 => (slD m d l h S3).cps k x z) x z else z) x z) x z := by
  rw [evE, bind_cps]; congr 1; funext d S1; rw [bind_cps]; congr 1; funext l S2
  split
  · rw [bind_cps]
  · exact cps_stuck
@[simp ↓] theorem ev_rev {m : Bool} {p : ME} : (evE b (.rev m p) ρ S).cps k x z = (evE b p ρ S).cps (fun d S1 => (revD m d S1).cps k x z) x z := by rw [evE, bind_cps]
@[simp ↓] theorem ev_call {n : Str} {g : FnSem} {es : MEs} : (evE b (.call n g es) ρ S).cps k x z = (evEs b es ρ S).cps (fun ds S1 => (g b ds S1).cps k x z) x z := by rw [evE, bind_cps]
@[simp ↓] theorem ev_bi {m : Bool} {o : Bi} {es : MEs} : (evE b (.bi m o es) ρ S).cps k x z = (evEs b es ρ S).cps (fun ds S1 => (biD m o ds S1).cps k x z) x z := by rw [evE, bind_cps]
@[simp ↓] theorem ev_isi {p : ME} {t : Ty} : (evE b (.isi p t) ρ S).cps k x z = (evE b p ρ S).cps (fun d S1 => (isiD d t S1).cps k x z) x z := by rw [evE, bind_cps]; rfl
@[simp ↓] theorem ev_bm {m : Bool} {o : Bm} {p : ME} {es : MEs} : (evE b (.bm m o p es) ρ S).cps k x z = (evE b p ρ S).cps (fun d S1 => if (lstOf S1 d).isSome = true then (evEs b es ρ S1).cps (fun ds S2 => (bmD b m o d ds S2).cps k x z) x z else z) x z := by
  rw [evE, bind_cps]; congr 1; funext d S1
  split
  · rw [bind_cps]
  · exact cps_stuck
@[simp ↓] theorem ev_lc {m : Bool} {own : List Nat} {elt : ME} {tg : Pat} {it : MI} {c : MO} : (evE b (.lc m own elt tg it c) ρ S).cps k x z = (evI b it ρ S).cps (fun q S1 => (lcS b own elt tg c ρ q.2 q.1 S1).cps (fun ds S2 => (newL m ds S2).cps k x z) x z) x z := by
  rw [evE, bind_cps]; congr 1; funext q S1; rw [bind_cps]; rfl
end
@[simp ↓] theorem ev_nil {k : List D → Store → β} : (evEs b .nil ρ S).cps k x z = k [] S := by first | exact nrfl rfl trivial | (unfold Res.cps; rfl)
@[simp ↓] theorem ev_cons {e : ME} {es : MEs} {k : List D → Store → β} : (evEs b (.cons e es) ρ S).cps k x z = (evE b e ρ S).cps (fun d S1 => (evEs b es ρ S1).cps (fun ds S2 => k (d :: ds) S2) x z) x z := by
  rw [evEs, bind_cps]; congr 1; funext d S1; rw [bind_cps]; congr 1; funext ds S2; exact cps_ok
@[simp ↓] theorem ev_o0 {k : Option D → Store → β} : (evO b .none ρ S).cps k x z = k none S := by first | exact nrfl rfl trivial | (unfold Res.cps; rfl)
@[simp ↓] theorem ev_o1 {e : ME} {k : Option D → Store → β} : (evO b (.some e) ρ S).cps k x z = (evE b e ρ S).cps (fun d S1 => k (some d) S1) x z := by
  rw [evO, bind_cps]; congr 1; funext d S1; exact cps_ok
section
variable {k : List D × Src → Store → β}
@[simp ↓] theorem ev_iexp {e : ME} : (evI b (.exp e) ρ S).cps k x z = (evE b e ρ S).cps (fun d S1 => (iterD d S1).cps k x z) x z := by rw [evI, bind_cps]; rfl
@[simp ↓] theorem ev_irng1 {e : ME} : (evI b (.rng1 e) ρ S).cps k x z = (evE b e ρ S).cps (fun d S1 => (rng1D d S1).cps k x z) x z := by rw [evI, bind_cps]; rfl
@[simp ↓] theorem ev_irng2 {e f : ME} : (evI b (.rng2 e f) ρ S).cps k x z = (evE b e ρ S).cps (fun d S1 => (evE b f ρ S1).cps (fun g S2 => (rng2D d g S2).cps k x z) x z) x z := by
  rw [evI, bind_cps]; congr 1; funext d S1; rw [bind_cps]; rfl
@[simp ↓] theorem ev_ienum {e : ME} : (evI b (.enum e) ρ S).cps k x z = (evE b e ρ S).cps (fun d S1 => (enumSD d S1).cps k x z) x z := by rw [evI, bind_cps]; rfl
@[simp ↓] theorem ev_izip {e f : ME} : (evI b (.zip e f) ρ S).cps k x z = (evE b e ρ S).cps (fun d S1 => (evE b f ρ S1).cps (fun g S2 => (zipSD d g S2).cps k x z) x z) x z := by
  rw [evI, bind_cps]; congr 1; funext d S1; rw [bind_cps]; rfl
end
end

/-! ### statements -/
def whileS (b : Nat) (c : ME) (body : MSs) (n : Nat) (ρ : Env) (S : Store) : SRes := whileL (fun ρ1 S1 => evE b c ρ1 S1) (fun ρ1 S1 => evSs b body ρ1 S1) n ρ S
def forF (b : Nat) (p : Pat) (body : MSs) (d : D) (ρ1 : Env) (S2 : Store) : SRes := match bindP p d ρ1 with
      | some ρ2 => evSs b body ρ2 S2
      | none => .stuck
def forS (b : Nat) (p : Pat) (body : MSs) (src : Src) (items : List D) (ρ : Env) (S : Store) : SRes := forL src (forF b p body) items ρ S
def putS (o : Option Env) (S : Store) : SRes := match o with | some ρ1 => .nx ρ1 S | none => .stuck
@[simp ↓] theorem putS_some {ρ : Env} {S : Store} : putS (some ρ) S = .nx ρ S := nrfl rfl trivial
def stV (ρ : Env) (i : Nat) (v : D) (S : Store) : SRes := if i < ρ.length then .nx (ρ.set i (some v)) S else .stuck
def subS (b : Nat) (d : D) (k : D) (v : D) (ρ : Env) (S2 : Store) : SRes := match d, k with
    | .ref n, .int k => match S2[n]? with
      | some (.lst ds) => match ixD ds.length k with
        | some j => (match setC b n (.lst (ds.set j v)) (D.pure v) S2 with
          | some S3 => .nx ρ S3
          | none => .stuck)
        | none => .stuck
      | _ => .stuck
    | _, _ => .stuck
def tupS (b : Nat) (ts : List MT) (v : D) (ρ : Env) (S1 : Store) : SRes := match v with
    | .tup ds => if ds.length = ts.length then stTs b ts ds ρ S1 else .stuck
    | _ => .stuck
def tryS (hs : List (Str × Nat × Str)) (r : SRes) : SRes := match r with
    | .exc c ρ1 S1 => match hs.find? fun h => h.2.1 == c with
      | some h => .rt (.str h.2.2) S1
      | none => .stuck
    | r => r
section
variable {b : Nat} {ρ : Env} {S : Store} {f : Env → Store → SRes}
theorem seq_cps {α : Type} {r : Res α} {g : α → Store → SRes} : (r.cps g (fun c S => SRes.exc c ρ S) SRes.stuck).seq f = r.cps (fun a S => (g a S).seq f) (fun c S => SRes.exc c ρ S) SRes.stuck := by cases r <;> (unfold Res.cps; rfl)
@[simp ↓] theorem ev_snil : evSs b .nil ρ S = .nx ρ S := nrfl rfl trivial
@[simp ↓] theorem ev_scons {s : MS} {r : MSs} : evSs b (.cons s r) ρ S = (evS b s ρ S).seq fun ρ1 S1 => evSs b r ρ1 S1 := by rw [evSs]
@[simp ↓] theorem ev_asg {i : Nat} {e : ME} : (evS b (.asg (.var i) e) ρ S).seq f = (evE b e ρ S).cps (fun v S1 => (stV ρ i v S1).seq f) (fun c S => SRes.exc c ρ S) SRes.stuck := by
  rw [evS, st_is, seq_cps]; rfl
@[simp ↓] theorem ev_put {p q e : ME} : (evS b (.asg (.sub p q) e) ρ S).seq f = (evE b e ρ S).cps (fun v S1 => (evE b p ρ S1).cps (fun d S2 => (evE b q ρ S2).cps (fun j S3 => (subS b d j v ρ S3).seq f) (fun c S => SRes.exc c ρ S) SRes.stuck) (fun c S => SRes.exc c ρ S) SRes.stuck) (fun c S => SRes.exc c ρ S) SRes.stuck := by
  rw [evS, st_is, seq_cps]; congr 1; funext v S1; rw [stT, st_is, seq_cps]; congr 1; funext d S2; rw [st_is, seq_cps]; rfl
@[simp ↓] theorem ev_asgT {ts : List MT} {e : ME} : (evS b (.asgT ts e) ρ S).seq f = (evE b e ρ S).cps (fun v S1 => (tupS b ts v ρ S1).seq f) (fun c S => SRes.exc c ρ S) SRes.stuck := by
  rw [evS, st_is, seq_cps]; rfl
@[simp ↓] theorem ev_par {is : List Nat} {es : MEs} : (evS b (.par is es) ρ S).seq f = (evEs b es ρ S).cps (fun ds S1 => (putS (bindP (.tup is) (.tup ds) ρ) S1).seq f) (fun c S => SRes.exc c ρ S) SRes.stuck := by
  rw [evS, st_is, seq_cps]; rfl
@[simp ↓] theorem ev_expr {e : ME} : (evS b (.expr e) ρ S).seq f = (evE b e ρ S).cps (fun v S1 => f ρ S1) (fun c S => SRes.exc c ρ S) SRes.stuck := by
  rw [evS, st_is, seq_cps]; rfl
@[simp ↓] theorem ev_ret {e : ME} : (evS b (.ret e) ρ S).seq f = (evE b e ρ S).cps (fun v S1 => .rt v S1) (fun c S => SRes.exc c ρ S) SRes.stuck := by
  rw [evS, st_is, seq_cps]; rfl
@[simp ↓] theorem ev_if {c : ME} {p q : MSs} : (evS b (.ifs c p q) ρ S).seq f = (evE b c ρ S).cps (fun d S1 => tcase (truD S1 d) ((evSs b p ρ S1).seq f) ((evSs b q ρ S1).seq f) .stuck) (fun c S => SRes.exc c ρ S) SRes.stuck := by
  rw [evS, st_is, seq_cps]; congr 1; funext d S1
  cases truD S1 d with
  | none => first | rfl | (unfold Res.cps; rfl)
  | some t => cases t <;> first | rfl | (unfold Res.cps; rfl)
@[simp ↓] theorem seq_seq {r : SRes} {g : Env → Store → SRes} : (r.seq g).seq f = r.seq fun ρ1 S1 => (g ρ1 S1).seq f := by cases r <;> rfl
@[simp ↓] theorem ev_for {p : Pat} {it : MI} {body : MSs} : (evS b (.for_ p it body) ρ S).seq f = (evI b it ρ S).cps (fun q S1 => (forS b p body q.2 q.1 ρ S1).seq f) (fun c S => SRes.exc c ρ S) SRes.stuck := by
  rw [evS, st_is, seq_cps]; rfl
@[simp ↓] theorem ev_while {c : ME} {body : MSs} : (evS b (.whil c body) ρ S).seq f = (whileS b c body fuel ρ S).seq f := by rw [evS]; rfl
@[simp ↓] theorem ev_rais {n : Str} {c : Nat} : (evS b (.rais n c) ρ S).seq f = .exc c ρ S := by rw [evS]; rfl
@[simp ↓] theorem ev_try {body : MSs} {hs : List (Str × Nat × Str)} : (evS b (.tryc body hs) ρ S).seq f = (tryS hs (evSs b body ρ S)).seq f := by rw [evS]; rfl
@[simp ↓] theorem stV_zero {a : Option D} {v : D} : (stV (a :: ρ) 0 v S).seq f = f (some v :: ρ) S := nrfl rfl trivial
@[simp ↓] theorem stV_succ {a : Option D} {i : Nat} {v : D} : (stV (a :: ρ) (i + 1) v S).seq f = (stV ρ i v S).seq fun ρ1 S1 => f (a :: ρ1) S1 := by
  unfold stV
  simp only [List.length_cons, Nat.add_lt_add_iff_right]
  by_cases h : i < ρ.length
  · rw [if_pos h, if_pos h]; rfl
  · rw [if_neg h, if_neg h]; rfl
theorem stV_ok {i : Nat} {v : D} (h : i < ρ.length) : (stV ρ i v S).seq f = f (ρ.set i (some v)) S := by unfold stV; rw [if_pos h]; rfl
end

/-! ### what things are -/
@[simp] theorem truD_bl {S : Store} {k : Bool} : truD S (.bl k) = some k := nrfl rfl trivial
@[simp] theorem truD_int {S : Store} {i : Int} : truD S (.int i) = some (i != 0) := nrfl rfl trivial
@[simp] theorem truD_non {S : Store} : truD S .non = some false := nrfl rfl trivial
@[simp] theorem truD_tup {S : Store} {xs : List D} : truD S (.tup xs) = some (!xs.isEmpty) := nrfl rfl trivial
@[simp] theorem truD_lst {S : Store} {xs : List D} : truD S (.lst xs) = some (!xs.isEmpty) := nrfl rfl trivial
@[simp] theorem truD_scr {S : Store} {xs : List D} : truD S (.scr xs) = some (!xs.isEmpty) := nrfl rfl trivial
@[simp] theorem tru1_bl {S : Store} {k : Bool} : tru1 (.bl k) S = .ok k S := nrfl rfl trivial
@[simp] theorem tru1_int {S : Store} {i : Int} : tru1 (.int i) S = .ok (i != 0) S := nrfl rfl trivial
theorem bin_add {m : Bool} {S : Store} {i j : Int} : binD m .add (.int i) (.int j) S = .ok (.int (i + j)) S := rfl
theorem bin_sub {m : Bool} {S : Store} {i j : Int} : binD m .sub (.int i) (.int j) S = .ok (.int (i - j)) S := rfl
theorem bin_mul {m : Bool} {S : Store} {i j : Int} (h : mulOk i j = true) : binD m .mul (.int i) (.int j) S = .ok (.int (i * j)) S := if_pos h
theorem bin_mod {m : Bool} {S : Store} {i j : Int} (h : 0 < j) : binD m .mod (.int i) (.int j) S = .ok (.int (i % j)) S := if_pos h
theorem bin_div {m : Bool} {S : Store} {i j : Int} (h : divOk j = true) : binD m .fdiv (.int i) (.int j) S = .ok (.int (i / j)) S := if_pos h
theorem neg_int {S : Store} {i : Int} : negD (.int i) S = .ok (.int (-i)) S := rfl
theorem cmp_lt {S : Store} {i j : Int} : cmpD .lt (.int i) (.int j) S = .ok (.bl (decide (i < j))) S := rfl
theorem cmp_le {S : Store} {i j : Int} : cmpD .le (.int i) (.int j) S = .ok (.bl (decide (i ≤ j))) S := rfl
theorem cmp_gt {S : Store} {i j : Int} : cmpD .gt (.int i) (.int j) S = .ok (.bl (decide (j < i))) S := rfl
theorem cmp_ge {S : Store} {i j : Int} : cmpD .ge (.int i) (.int j) S = .ok (.bl (decide (j ≤ i))) S := rfl
@[simp] theorem shaped_int {i : Int} : SeqAt.shaped (.int i) = true := by rfl
@[simp] theorem eqv_int {i j : Int} : PyData.eqv (.int i) (.int j) = decide (i = j) := by
  rw [PyData.eqv]
  rfl
theorem cmp_eqi {S : Store} {i j : Int} : cmpD .eq (.int i) (.int j) S = .ok (.bl (decide (i = j))) S := by
  show (if (SeqAt.shaped (.int i) && SeqAt.shaped (.int j)) = true then Res.ok (D.bl (PyData.eqv (.int i) (.int j))) S else .stuck) = _
  simp
theorem cmp_nei {S : Store} {i j : Int} : cmpD .ne (.int i) (.int j) S = .ok (.bl (!decide (i = j))) S := by
  show (if (SeqAt.shaped (.int i) && SeqAt.shaped (.int j)) = true then Res.ok (D.bl (!PyData.eqv (.int i) (.int j))) S else .stuck) = _
  simp
@[simp] theorem sq_tup {S : Store} {ds : List D} : seqOf S (.tup ds) = some (false, ds) := nrfl rfl trivial
@[simp] theorem sq_lst {S : Store} {ds : List D} : seqOf S (.lst ds) = some (true, ds) := nrfl rfl trivial
@[simp] theorem sq_scr {S : Store} {ds : List D} : seqOf S (.scr ds) = some (true, ds) := nrfl rfl trivial
@[simp] theorem lst_lst {S : Store} {ds : List D} : lstOf S (.lst ds) = some ds := nrfl rfl trivial
theorem itr_tup {S : Store} {ds : List D} : iterD (.tup ds) S = .ok (ds, []) S := rfl
theorem itr_lst {S : Store} {ds : List D} : iterD (.lst ds) S = .ok (ds, []) S := rfl
theorem itr_scr {S : Store} {ds : List D} : iterD (.scr ds) S = .ok (ds, []) S := rfl
theorem len_seq {m : Bool} {S : Store} {ds : List D} : biD m .len [.tup ds] S = .ok (.int ds.length) S := rfl
theorem len_lst {m : Bool} {S : Store} {ds : List D} : biD m .len [.lst ds] S = .ok (.int ds.length) S := rfl
theorem len_scr {m : Bool} {S : Store} {ds : List D} : biD m .len [.scr ds] S = .ok (.int ds.length) S := rfl
theorem bi_abs {m : Bool} {S : Store} {i : Int} : biD m .abs [.int i] S = .ok (.int i.natAbs) S := by
  show Res.ok (D.int (if i < 0 then -i else i)) S = _
  congr 2
  split <;> omega
theorem ix_tup {S : Store} {ds : List D} {k : Int} : ixS (.tup ds) (.int k) S = ofO (atD ds k) S := rfl
theorem ix_lst {S : Store} {ds : List D} {k : Int} : ixS (.lst ds) (.int k) S = ofO (atD ds k) S := rfl
theorem ix_scr {S : Store} {ds : List D} {k : Int} : ixS (.scr ds) (.int k) S = ofO (atD ds k) S := rfl
theorem atD_nat {ds : List D} {k : Nat} : atD ds (k : Int) = ds[k]? := by
  unfold atD ixD
  by_cases h : (k : Int) < (ds.length : Int)
  · rw [if_pos (by omega), if_pos h]; simp
  · rw [if_pos (by omega), if_neg h]
    rw [List.getElem?_eq_none (by omega)]; rfl
@[simp] theorem at_0 {d : D} {ds : List D} : atD (d :: ds) 0 = some d := by rw [show (0 : Int) = ((0 : Nat) : Int) from rfl, atD_nat]; rfl
@[simp] theorem at_1 {d e : D} {ds : List D} : atD (d :: e :: ds) 1 = some e := by rw [show (1 : Int) = ((1 : Nat) : Int) from rfl, atD_nat]; rfl
theorem ofO_some {α : Type} {a : α} {S : Store} : ofO (some a) S = .ok a S := rfl
theorem newT_ok {ds : List D} {S : Store} (h : ds.length ≤ line) : newT ds S = .ok (.tup ds) S := if_pos h
theorem newL_ok {ds : List D} {S : Store} (h : ds.length ≤ line) : newL false ds S = .ok (.lst ds) S := if_pos h
theorem newL_cell {ds : List D} {S : Store} (h : ds.length ≤ line) : newL true ds S = .ok (.ref S.length) (S ++ [.lst ds]) := if_pos h
theorem newT_0 {S : Store} : newT [] S = .ok (.tup []) S := if_pos (show 0 ≤ line by decide)
theorem newL_0 {S : Store} : newL false [] S = .ok (.lst []) S := if_pos (show 0 ≤ line by decide)
theorem newT_1 {a0 : D} {S : Store} : newT [a0] S = .ok (.tup [a0]) S := if_pos (show 1 ≤ line by decide)
theorem newL_1 {a0 : D} {S : Store} : newL false [a0] S = .ok (.lst [a0]) S := if_pos (show 1 ≤ line by decide)
theorem newT_2 {a0 a1 : D} {S : Store} : newT [a0, a1] S = .ok (.tup [a0, a1]) S := if_pos (show 2 ≤ line by decide)
theorem newL_2 {a0 a1 : D} {S : Store} : newL false [a0, a1] S = .ok (.lst [a0, a1]) S := if_pos (show 2 ≤ line by decide)
theorem newT_3 {a0 a1 a2 : D} {S : Store} : newT [a0, a1, a2] S = .ok (.tup [a0, a1, a2]) S := if_pos (show 3 ≤ line by decide)
theorem newL_3 {a0 a1 a2 : D} {S : Store} : newL false [a0, a1, a2] S = .ok (.lst [a0, a1, a2]) S := if_pos (show 3 ≤ line by decide)
theorem newT_4 {a0 a1 a2 a3 : D} {S : Store} : newT [a0, a1, a2, a3] S = .ok (.tup [a0, a1, a2, a3]) S := if_pos (show 4 ≤ line by decide)
theorem newL_4 {a0 a1 a2 a3 : D} {S : Store} : newL false [a0, a1, a2, a3] S = .ok (.lst [a0, a1, a2, a3]) S := if_pos (show 4 ≤ line by decide)
theorem newT_5 {a0 a1 a2 a3 a4 : D} {S : Store} : newT [a0, a1, a2, a3, a4] S = .ok (.tup [a0, a1, a2, a3, a4]) S := if_pos (show 5 ≤ line by decide)
theorem newL_5 {a0 a1 a2 a3 a4 : D} {S : Store} : newL false [a0, a1, a2, a3, a4] S = .ok (.lst [a0, a1, a2, a3, a4]) S := if_pos (show 5 ≤ line by decide)
theorem newT_6 {a0 a1 a2 a3 a4 a5 : D} {S : Store} : newT [a0, a1, a2, a3, a4, a5] S = .ok (.tup [a0, a1, a2, a3, a4, a5]) S := if_pos (show 6 ≤ line by decide)
theorem newL_6 {a0 a1 a2 a3 a4 a5 : D} {S : Store} : newL false [a0, a1, a2, a3, a4, a5] S = .ok (.lst [a0, a1, a2, a3, a4, a5]) S := if_pos (show 6 ≤ line by decide)
theorem newT_7 {a0 a1 a2 a3 a4 a5 a6 : D} {S : Store} : newT [a0, a1, a2, a3, a4, a5, a6] S = .ok (.tup [a0, a1, a2, a3, a4, a5, a6]) S := if_pos (show 7 ≤ line by decide)
theorem newL_7 {a0 a1 a2 a3 a4 a5 a6 : D} {S : Store} : newL false [a0, a1, a2, a3, a4, a5, a6] S = .ok (.lst [a0, a1, a2, a3, a4, a5, a6]) S := if_pos (show 7 ≤ line by decide)
theorem newT_8 {a0 a1 a2 a3 a4 a5 a6 a7 : D} {S : Store} : newT [a0, a1, a2, a3, a4, a5, a6, a7] S = .ok (.tup [a0, a1, a2, a3, a4, a5, a6, a7]) S := if_pos (show 8 ≤ line by decide)
theorem newL_8 {a0 a1 a2 a3 a4 a5 a6 a7 : D} {S : Store} : newL false [a0, a1, a2, a3, a4, a5, a6, a7] S = .ok (.lst [a0, a1, a2, a3, a4, a5, a6, a7]) S := if_pos (show 8 ≤ line by decide)
theorem newT_9 {a0 a1 a2 a3 a4 a5 a6 a7 a8 : D} {S : Store} : newT [a0, a1, a2, a3, a4, a5, a6, a7, a8] S = .ok (.tup [a0, a1, a2, a3, a4, a5, a6, a7, a8]) S := if_pos (show 9 ≤ line by decide)
theorem newL_9 {a0 a1 a2 a3 a4 a5 a6 a7 a8 : D} {S : Store} : newL false [a0, a1, a2, a3, a4, a5, a6, a7, a8] S = .ok (.lst [a0, a1, a2, a3, a4, a5, a6, a7, a8]) S := if_pos (show 9 ≤ line by decide)
/-! isinstance -/
theorem isi_non_int {S : Store} : isiD .non .int S = .ok (.bl false) S := rfl
theorem isi_non_bool {S : Store} : isiD .non .bool S = .ok (.bl false) S := rfl
theorem isi_non_str {S : Store} : isiD .non .str S = .ok (.bl false) S := rfl
theorem isi_non_tuple {S : Store} : isiD .non .tuple S = .ok (.bl false) S := rfl
theorem isi_non_list {S : Store} : isiD .non .list S = .ok (.bl false) S := rfl
theorem isi_bl_int {v : Bool} {S : Store} : isiD (.bl v) .int S = .ok (.bl true) S := rfl
theorem isi_bl_bool {v : Bool} {S : Store} : isiD (.bl v) .bool S = .ok (.bl true) S := rfl
theorem isi_bl_str {v : Bool} {S : Store} : isiD (.bl v) .str S = .ok (.bl false) S := rfl
theorem isi_bl_tuple {v : Bool} {S : Store} : isiD (.bl v) .tuple S = .ok (.bl false) S := rfl
theorem isi_bl_list {v : Bool} {S : Store} : isiD (.bl v) .list S = .ok (.bl false) S := rfl
theorem isi_int_int {v : Int} {S : Store} : isiD (.int v) .int S = .ok (.bl true) S := rfl
theorem isi_int_bool {v : Int} {S : Store} : isiD (.int v) .bool S = .ok (.bl false) S := rfl
theorem isi_int_str {v : Int} {S : Store} : isiD (.int v) .str S = .ok (.bl false) S := rfl
theorem isi_int_tuple {v : Int} {S : Store} : isiD (.int v) .tuple S = .ok (.bl false) S := rfl
theorem isi_int_list {v : Int} {S : Store} : isiD (.int v) .list S = .ok (.bl false) S := rfl
theorem isi_str_int {v : PySem.Str} {S : Store} : isiD (.str v) .int S = .ok (.bl false) S := rfl
theorem isi_str_bool {v : PySem.Str} {S : Store} : isiD (.str v) .bool S = .ok (.bl false) S := rfl
theorem isi_str_str {v : PySem.Str} {S : Store} : isiD (.str v) .str S = .ok (.bl true) S := rfl
theorem isi_str_tuple {v : PySem.Str} {S : Store} : isiD (.str v) .tuple S = .ok (.bl false) S := rfl
theorem isi_str_list {v : PySem.Str} {S : Store} : isiD (.str v) .list S = .ok (.bl false) S := rfl
theorem isi_tup_int {v : List D} {S : Store} : isiD (.tup v) .int S = .ok (.bl false) S := rfl
theorem isi_tup_bool {v : List D} {S : Store} : isiD (.tup v) .bool S = .ok (.bl false) S := rfl
theorem isi_tup_str {v : List D} {S : Store} : isiD (.tup v) .str S = .ok (.bl false) S := rfl
theorem isi_tup_tuple {v : List D} {S : Store} : isiD (.tup v) .tuple S = .ok (.bl true) S := rfl
theorem isi_tup_list {v : List D} {S : Store} : isiD (.tup v) .list S = .ok (.bl false) S := rfl
theorem isi_lst_int {v : List D} {S : Store} : isiD (.lst v) .int S = .ok (.bl false) S := rfl
theorem isi_lst_bool {v : List D} {S : Store} : isiD (.lst v) .bool S = .ok (.bl false) S := rfl
theorem isi_lst_str {v : List D} {S : Store} : isiD (.lst v) .str S = .ok (.bl false) S := rfl
theorem isi_lst_tuple {v : List D} {S : Store} : isiD (.lst v) .tuple S = .ok (.bl false) S := rfl
theorem isi_lst_list {v : List D} {S : Store} : isiD (.lst v) .list S = .ok (.bl true) S := rfl
theorem ix_t0 {a : D} {r : List D} {S : Store} : ixS (.tup (a :: r)) (.int 0) S = .ok a S := by rw [ix_tup, at_0]; rfl
theorem ix_t1 {a b : D} {r : List D} {S : Store} : ixS (.tup (a :: b :: r)) (.int 1) S = .ok b S := by rw [ix_tup, at_1]; rfl
theorem ix_l0 {a : D} {r : List D} {S : Store} : ixS (.lst (a :: r)) (.int 0) S = .ok a S := by rw [ix_lst, at_0]; rfl
theorem ix_l1 {a b : D} {r : List D} {S : Store} : ixS (.lst (a :: b :: r)) (.int 1) S = .ok b S := by rw [ix_lst, at_1]; rfl
theorem tcase_of {β : Type} {S : Store} {d : D} {p : Bool} {a b z : β} (h : truD S d = some p) : tcase (truD S d) a b z = if p = true then a else b := by rw [h]; exact tcase_some
@[simp ↓] theorem tcase_bl {β : Type} {S : Store} {p : Bool} {a b z : β} : tcase (truD S (.bl p)) a b z = if p = true then a else b := tcase_of rfl
@[simp ↓] theorem tcase_int {β : Type} {S : Store} {i : Int} {a b z : β} : tcase (truD S (.int i)) a b z = if (i != 0) = true then a else b := tcase_of rfl
@[simp ↓] theorem tcase_non {β : Type} {S : Store} {a b z : β} : tcase (truD S .non) a b z = b := nrfl rfl trivial
@[simp ↓] theorem tcase_tup {β : Type} {S : Store} {xs : List D} {a b z : β} : tcase (truD S (.tup xs)) a b z = if (!xs.isEmpty) = true then a else b := tcase_of rfl
@[simp ↓] theorem tcase_lst {β : Type} {S : Store} {xs : List D} {a b z : β} : tcase (truD S (.lst xs)) a b z = if (!xs.isEmpty) = true then a else b := tcase_of rfl
@[simp ↓] theorem tcase_scr {β : Type} {S : Store} {xs : List D} {a b z : β} : tcase (truD S (.scr xs)) a b z = if (!xs.isEmpty) = true then a else b := tcase_of rfl
@[simp ↓] theorem bin_add_c {β : Type} {m : Bool} {S : Store} {i j : Int} {k : D → Store → β} {x : Nat → Store → β} {z : β} : (binD m .add (.int i) (.int j) S).cps k x z = k (.int (i + j)) S := cps_of bin_add
@[simp ↓] theorem bin_sub_c {β : Type} {m : Bool} {S : Store} {i j : Int} {k : D → Store → β} {x : Nat → Store → β} {z : β} : (binD m .sub (.int i) (.int j) S).cps k x z = k (.int (i - j)) S := cps_of bin_sub
@[simp ↓] theorem neg_int_c {β : Type} {S : Store} {i : Int} {k : D → Store → β} {x : Nat → Store → β} {z : β} : (negD (.int i) S).cps k x z = k (.int (-i)) S := cps_of neg_int
@[simp ↓] theorem cmp_lt_c {β : Type} {S : Store} {i j : Int} {k : D → Store → β} {x : Nat → Store → β} {z : β} : (cmpD .lt (.int i) (.int j) S).cps k x z = k (.bl (decide (i < j))) S := cps_of cmp_lt
@[simp ↓] theorem cmp_le_c {β : Type} {S : Store} {i j : Int} {k : D → Store → β} {x : Nat → Store → β} {z : β} : (cmpD .le (.int i) (.int j) S).cps k x z = k (.bl (decide (i ≤ j))) S := cps_of cmp_le
@[simp ↓] theorem cmp_gt_c {β : Type} {S : Store} {i j : Int} {k : D → Store → β} {x : Nat → Store → β} {z : β} : (cmpD .gt (.int i) (.int j) S).cps k x z = k (.bl (decide (j < i))) S := cps_of cmp_gt
@[simp ↓] theorem cmp_ge_c {β : Type} {S : Store} {i j : Int} {k : D → Store → β} {x : Nat → Store → β} {z : β} : (cmpD .ge (.int i) (.int j) S).cps k x z = k (.bl (decide (j ≤ i))) S := cps_of cmp_ge
@[simp ↓] theorem cmp_eqi_c {β : Type} {S : Store} {i j : Int} {k : D → Store → β} {x : Nat → Store → β} {z : β} : (cmpD .eq (.int i) (.int j) S).cps k x z = k (.bl (decide (i = j))) S := cps_of cmp_eqi
@[simp ↓] theorem cmp_nei_c {β : Type} {S : Store} {i j : Int} {k : D → Store → β} {x : Nat → Store → β} {z : β} : (cmpD .ne (.int i) (.int j) S).cps k x z = k (.bl (!decide (i = j))) S := cps_of cmp_nei
@[simp ↓] theorem itr_tup_c {β : Type} {S : Store} {ds : List D} {k : (List D × Src) → Store → β} {x : Nat → Store → β} {z : β} : (iterD (.tup ds) S).cps k x z = k (ds, []) S := cps_of itr_tup
@[simp ↓] theorem itr_lst_c {β : Type} {S : Store} {ds : List D} {k : (List D × Src) → Store → β} {x : Nat → Store → β} {z : β} : (iterD (.lst ds) S).cps k x z = k (ds, []) S := cps_of itr_lst
@[simp ↓] theorem itr_scr_c {β : Type} {S : Store} {ds : List D} {k : (List D × Src) → Store → β} {x : Nat → Store → β} {z : β} : (iterD (.scr ds) S).cps k x z = k (ds, []) S := cps_of itr_scr
@[simp ↓] theorem len_seq_c {β : Type} {m : Bool} {S : Store} {ds : List D} {k : D → Store → β} {x : Nat → Store → β} {z : β} : (biD m .len [.tup ds] S).cps k x z = k (.int ds.length) S := cps_of len_seq
@[simp ↓] theorem len_lst_c {β : Type} {m : Bool} {S : Store} {ds : List D} {k : D → Store → β} {x : Nat → Store → β} {z : β} : (biD m .len [.lst ds] S).cps k x z = k (.int ds.length) S := cps_of len_lst
@[simp ↓] theorem len_scr_c {β : Type} {m : Bool} {S : Store} {ds : List D} {k : D → Store → β} {x : Nat → Store → β} {z : β} : (biD m .len [.scr ds] S).cps k x z = k (.int ds.length) S := cps_of len_scr
@[simp ↓] theorem bi_abs_c {β : Type} {m : Bool} {S : Store} {i : Int} {k : D → Store → β} {x : Nat → Store → β} {z : β} : (biD m .abs [.int i] S).cps k x z = k (.int i.natAbs) S := cps_of bi_abs
@[simp ↓] theorem ofO_some_c {β : Type} {α : Type} {a : α} {S : Store} {k : α → Store → β} {x : Nat → Store → β} {z : β} : (ofO (some a) S).cps k x z = k a S := cps_of ofO_some
@[simp ↓] theorem newT_0_c {β : Type} {S : Store} {k : D → Store → β} {x : Nat → Store → β} {z : β} : (newT [] S).cps k x z = k (.tup []) S := cps_of newT_0
@[simp ↓] theorem newL_0_c {β : Type} {S : Store} {k : D → Store → β} {x : Nat → Store → β} {z : β} : (newL false [] S).cps k x z = k (.lst []) S := cps_of newL_0
@[simp ↓] theorem newT_1_c {β : Type} {a0 : D} {S : Store} {k : D → Store → β} {x : Nat → Store → β} {z : β} : (newT [a0] S).cps k x z = k (.tup [a0]) S := cps_of newT_1
@[simp ↓] theorem newL_1_c {β : Type} {a0 : D} {S : Store} {k : D → Store → β} {x : Nat → Store → β} {z : β} : (newL false [a0] S).cps k x z = k (.lst [a0]) S := cps_of newL_1
@[simp ↓] theorem newT_2_c {β : Type} {a0 a1 : D} {S : Store} {k : D → Store → β} {x : Nat → Store → β} {z : β} : (newT [a0, a1] S).cps k x z = k (.tup [a0, a1]) S := cps_of newT_2
@[simp ↓] theorem newL_2_c {β : Type} {a0 a1 : D} {S : Store} {k : D → Store → β} {x : Nat → Store → β} {z : β} : (newL false [a0, a1] S).cps k x z = k (.lst [a0, a1]) S := cps_of newL_2
@[simp ↓] theorem newT_3_c {β : Type} {a0 a1 a2 : D} {S : Store} {k : D → Store → β} {x : Nat → Store → β} {z : β} : (newT [a0, a1, a2] S).cps k x z = k (.tup [a0, a1, a2]) S := cps_of newT_3
@[simp ↓] theorem newL_3_c {β : Type} {a0 a1 a2 : D} {S : Store} {k : D → Store → β} {x : Nat → Store → β} {z : β} : (newL false [a0, a1, a2] S).cps k x z = k (.lst [a0, a1, a2]) S := cps_of newL_3
@[simp ↓] theorem newT_4_c {β : Type} {a0 a1 a2 a3 : D} {S : Store} {k : D → Store → β} {x : Nat → Store → β} {z : β} : (newT [a0, a1, a2, a3] S).cps k x z = k (.tup [a0, a1, a2, a3]) S := cps_of newT_4
@[simp ↓] theorem newL_4_c {β : Type} {a0 a1 a2 a3 : D} {S : Store} {k : D → Store → β} {x : Nat → Store → β} {z : β} : (newL false [a0, a1, a2, a3] S).cps k x z = k (.lst [a0, a1, a2, a3]) S := cps_of newL_4
@[simp ↓] theorem newT_5_c {β : Type} {a0 a1 a2 a3 a4 : D} {S : Store} {k : D → Store → β} {x : Nat → Store → β} {z : β} : (newT [a0, a1, a2, a3, a4] S).cps k x z = k (.tup [a0, a1, a2, a3, a4]) S := cps_of newT_5
@[simp ↓] theorem newL_5_c {β : Type} {a0 a1 a2 a3 a4 : D} {S : Store} {k : D → Store → β} {x : Nat → Store → β} {z : β} : (newL false [a0, a1, a2, a3, a4] S).cps k x z = k (.lst [a0, a1, a2, a3, a4]) S := cps_of newL_5
@[simp ↓] theorem newT_6_c {β : Type} {a0 a1 a2 a3 a4 a5 : D} {S : Store} {k : D → Store → β} {x : Nat → Store → β} {z : β} : (newT [a0, a1, a2, a3, a4, a5] S).cps k x z = k (.tup [a0, a1, a2, a3, a4, a5]) S := cps_of newT_6
@[simp ↓] theorem newL_6_c {β : Type} {a0 a1 a2 a3 a4 a5 : D} {S : Store} {k : D → Store → β} {x : Nat → Store → β} {z : β} : (newL false [a0, a1, a2, a3, a4, a5] S).cps k x z = k (.lst [a0, a1, a2, a3, a4, a5]) S := cps_of newL_6
@[simp ↓] theorem newT_7_c {β : Type} {a0 a1 a2 a3 a4 a5 a6 : D} {S : Store} {k : D → Store → β} {x : Nat → Store → β} {z : β} : (newT [a0, a1, a2, a3, a4, a5, a6] S).cps k x z = k (.tup [a0, a1, a2, a3, a4, a5, a6]) S := cps_of newT_7
@[simp ↓] theorem newL_7_c {β : Type} {a0 a1 a2 a3 a4 a5 a6 : D} {S : Store} {k : D → Store → β} {x : Nat → Store → β} {z : β} : (newL false [a0, a1, a2, a3, a4, a5, a6] S).cps k x z = k (.lst [a0, a1, a2, a3, a4, a5, a6]) S := cps_of newL_7
@[simp ↓] theorem newT_8_c {β : Type} {a0 a1 a2 a3 a4 a5 a6 a7 : D} {S : Store} {k : D → Store → β} {x : Nat → Store → β} {z : β} : (newT [a0, a1, a2, a3, a4, a5, a6, a7] S).cps k x z = k (.tup [a0, a1, a2, a3, a4, a5, a6, a7]) S := cps_of newT_8
@[simp ↓] theorem newL_8_c {β : Type} {a0 a1 a2 a3 a4 a5 a6 a7 : D} {S : Store} {k : D → Store → β} {x : Nat → Store → β} {z : β} : (newL false [a0, a1, a2, a3, a4, a5, a6, a7] S).cps k x z = k (.lst [a0, a1, a2, a3, a4, a5, a6, a7]) S := cps_of newL_8
@[simp ↓] theorem newT_9_c {β : Type} {a0 a1 a2 a3 a4 a5 a6 a7 a8 : D} {S : Store} {k : D → Store → β} {x : Nat → Store → β} {z : β} : (newT [a0, a1, a2, a3, a4, a5, a6, a7, a8] S).cps k x z = k (.tup [a0, a1, a2, a3, a4, a5, a6, a7, a8]) S := cps_of newT_9
@[simp ↓] theorem newL_9_c {β : Type} {a0 a1 a2 a3 a4 a5 a6 a7 a8 : D} {S : Store} {k : D → Store → β} {x : Nat → Store → β} {z : β} : (newL false [a0, a1, a2, a3, a4, a5, a6, a7, a8] S).cps k x z = k (.lst [a0, a1, a2, a3, a4, a5, a6, a7, a8]) S := cps_of newL_9
@[simp ↓] theorem isi_non_int_c {β : Type} {S : Store} {k : D → Store → β} {x : Nat → Store → β} {z : β} : (isiD .non .int S).cps k x z = k (.bl false) S := cps_of isi_non_int
@[simp ↓] theorem isi_non_bool_c {β : Type} {S : Store} {k : D → Store → β} {x : Nat → Store → β} {z : β} : (isiD .non .bool S).cps k x z = k (.bl false) S := cps_of isi_non_bool
@[simp ↓] theorem isi_non_str_c {β : Type} {S : Store} {k : D → Store → β} {x : Nat → Store → β} {z : β} : (isiD .non .str S).cps k x z = k (.bl false) S := cps_of isi_non_str
@[simp ↓] theorem isi_non_tuple_c {β : Type} {S : Store} {k : D → Store → β} {x : Nat → Store → β} {z : β} : (isiD .non .tuple S).cps k x z = k (.bl false) S := cps_of isi_non_tuple
@[simp ↓] theorem isi_non_list_c {β : Type} {S : Store} {k : D → Store → β} {x : Nat → Store → β} {z : β} : (isiD .non .list S).cps k x z = k (.bl false) S := cps_of isi_non_list
@[simp ↓] theorem isi_bl_int_c {β : Type} {v : Bool} {S : Store} {k : D → Store → β} {x : Nat → Store → β} {z : β} : (isiD (.bl v) .int S).cps k x z = k (.bl true) S := cps_of isi_bl_int
@[simp ↓] theorem isi_bl_bool_c {β : Type} {v : Bool} {S : Store} {k : D → Store → β} {x : Nat → Store → β} {z : β} : (isiD (.bl v) .bool S).cps k x z = k (.bl true) S := cps_of isi_bl_bool
@[simp ↓] theorem isi_bl_str_c {β : Type} {v : Bool} {S : Store} {k : D → Store → β} {x : Nat → Store → β} {z : β} : (isiD (.bl v) .str S).cps k x z = k (.bl false) S := cps_of isi_bl_str
@[simp ↓] theorem isi_bl_tuple_c {β : Type} {v : Bool} {S : Store} {k : D → Store → β} {x : Nat → Store → β} {z : β} : (isiD (.bl v) .tuple S).cps k x z = k (.bl false) S := cps_of isi_bl_tuple
@[simp ↓] theorem isi_bl_list_c {β : Type} {v : Bool} {S : Store} {k : D → Store → β} {x : Nat → Store → β} {z : β} : (isiD (.bl v) .list S).cps k x z = k (.bl false) S := cps_of isi_bl_list
@[simp ↓] theorem isi_int_int_c {β : Type} {v : Int} {S : Store} {k : D → Store → β} {x : Nat → Store → β} {z : β} : (isiD (.int v) .int S).cps k x z = k (.bl true) S := cps_of isi_int_int
@[simp ↓] theorem isi_int_bool_c {β : Type} {v : Int} {S : Store} {k : D → Store → β} {x : Nat → Store → β} {z : β} : (isiD (.int v) .bool S).cps k x z = k (.bl false) S := cps_of isi_int_bool
@[simp ↓] theorem isi_int_str_c {β : Type} {v : Int} {S : Store} {k : D → Store → β} {x : Nat → Store → β} {z : β} : (isiD (.int v) .str S).cps k x z = k (.bl false) S := cps_of isi_int_str
@[simp ↓] theorem isi_int_tuple_c {β : Type} {v : Int} {S : Store} {k : D → Store → β} {x : Nat → Store → β} {z : β} : (isiD (.int v) .tuple S).cps k x z = k (.bl false) S := cps_of isi_int_tuple
@[simp ↓] theorem isi_int_list_c {β : Type} {v : Int} {S : Store} {k : D → Store → β} {x : Nat → Store → β} {z : β} : (isiD (.int v) .list S).cps k x z = k (.bl false) S := cps_of isi_int_list
@[simp ↓] theorem isi_str_int_c {β : Type} {v : PySem.Str} {S : Store} {k : D → Store → β} {x : Nat → Store → β} {z : β} : (isiD (.str v) .int S).cps k x z = k (.bl false) S := cps_of isi_str_int
@[simp ↓] theorem isi_str_bool_c {β : Type} {v : PySem.Str} {S : Store} {k : D → Store → β} {x : Nat → Store → β} {z : β} : (isiD (.str v) .bool S).cps k x z = k (.bl false) S := cps_of isi_str_bool
@[simp ↓] theorem isi_str_str_c {β : Type} {v : PySem.Str} {S : Store} {k : D → Store → β} {x : Nat → Store → β} {z : β} : (isiD (.str v) .str S).cps k x z = k (.bl true) S := cps_of isi_str_str
@[simp ↓] theorem isi_str_tuple_c {β : Type} {v : PySem.Str} {S : Store} {k : D → Store → β} {x : Nat → Store → β} {z : β} : (isiD (.str v) .tuple S).cps k x z = k (.bl false) S := cps_of isi_str_tuple
@[simp ↓] theorem isi_str_list_c {β : Type} {v : PySem.Str} {S : Store} {k : D → Store → β} {x : Nat → Store → β} {z : β} : (isiD (.str v) .list S).cps k x z = k (.bl false) S := cps_of isi_str_list
@[simp ↓] theorem isi_tup_int_c {β : Type} {v : List D} {S : Store} {k : D → Store → β} {x : Nat → Store → β} {z : β} : (isiD (.tup v) .int S).cps k x z = k (.bl false) S := cps_of isi_tup_int
@[simp ↓] theorem isi_tup_bool_c {β : Type} {v : List D} {S : Store} {k : D → Store → β} {x : Nat → Store → β} {z : β} : (isiD (.tup v) .bool S).cps k x z = k (.bl false) S := cps_of isi_tup_bool
@[simp ↓] theorem isi_tup_str_c {β : Type} {v : List D} {S : Store} {k : D → Store → β} {x : Nat → Store → β} {z : β} : (isiD (.tup v) .str S).cps k x z = k (.bl false) S := cps_of isi_tup_str
@[simp ↓] theorem isi_tup_tuple_c {β : Type} {v : List D} {S : Store} {k : D → Store → β} {x : Nat → Store → β} {z : β} : (isiD (.tup v) .tuple S).cps k x z = k (.bl true) S := cps_of isi_tup_tuple
@[simp ↓] theorem isi_tup_list_c {β : Type} {v : List D} {S : Store} {k : D → Store → β} {x : Nat → Store → β} {z : β} : (isiD (.tup v) .list S).cps k x z = k (.bl false) S := cps_of isi_tup_list
@[simp ↓] theorem isi_lst_int_c {β : Type} {v : List D} {S : Store} {k : D → Store → β} {x : Nat → Store → β} {z : β} : (isiD (.lst v) .int S).cps k x z = k (.bl false) S := cps_of isi_lst_int
@[simp ↓] theorem isi_lst_bool_c {β : Type} {v : List D} {S : Store} {k : D → Store → β} {x : Nat → Store → β} {z : β} : (isiD (.lst v) .bool S).cps k x z = k (.bl false) S := cps_of isi_lst_bool
@[simp ↓] theorem isi_lst_str_c {β : Type} {v : List D} {S : Store} {k : D → Store → β} {x : Nat → Store → β} {z : β} : (isiD (.lst v) .str S).cps k x z = k (.bl false) S := cps_of isi_lst_str
@[simp ↓] theorem isi_lst_tuple_c {β : Type} {v : List D} {S : Store} {k : D → Store → β} {x : Nat → Store → β} {z : β} : (isiD (.lst v) .tuple S).cps k x z = k (.bl false) S := cps_of isi_lst_tuple
@[simp ↓] theorem isi_lst_list_c {β : Type} {v : List D} {S : Store} {k : D → Store → β} {x : Nat → Store → β} {z : β} : (isiD (.lst v) .list S).cps k x z = k (.bl true) S := cps_of isi_lst_list
@[simp ↓] theorem ix_t0_c {β : Type} {a : D} {r : List D} {S : Store} {k : D → Store → β} {x : Nat → Store → β} {z : β} : (ixS (.tup (a :: r)) (.int 0) S).cps k x z = k a S := cps_of ix_t0
@[simp ↓] theorem ix_t1_c {β : Type} {a b : D} {r : List D} {S : Store} {k : D → Store → β} {x : Nat → Store → β} {z : β} : (ixS (.tup (a :: b :: r)) (.int 1) S).cps k x z = k b S := cps_of ix_t1
@[simp ↓] theorem ix_l0_c {β : Type} {a : D} {r : List D} {S : Store} {k : D → Store → β} {x : Nat → Store → β} {z : β} : (ixS (.lst (a :: r)) (.int 0) S).cps k x z = k a S := cps_of ix_l0
@[simp ↓] theorem ix_l1_c {β : Type} {a b : D} {r : List D} {S : Store} {k : D → Store → β} {x : Nat → Store → β} {z : β} : (ixS (.lst (a :: b :: r)) (.int 1) S).cps k x z = k b S := cps_of ix_l1
/-- a def's answer: nothing kept -/
theorem run_rt {n m : Nat} {body : MSs} {b : Nat} {args : List D} {S S' : Store} {d : D} (h : evSs S.length body (args.map some ++ List.replicate (m - n) none) S = .rt d S') (hl : args.length = n) (hp : D.pure d = true) : run false n m body b args S = .ok d (S'.take S.length) := by
  unfold run
  rw [if_pos hl]
  simp only [Bool.false_eq_true, if_false]
  rw [h]
  unfold fin
  simp [hp]
theorem run_exc {n m : Nat} {body : MSs} {b : Nat} {args : List D} {S S' : Store} {c : Nat} {ρ : Env} (h : evSs S.length body (args.map some ++ List.replicate (m - n) none) S = .exc c ρ S') (hl : args.length = n) : run false n m body b args S = .exc c (S'.take S.length) := by
  unfold run
  rw [if_pos hl]
  simp only [Bool.false_eq_true, if_false]
  rw [h]
theorem run_same {n m : Nat} {body : MSs} {b : Nat} {args : List D} {S : Store} {d : D} (h : evSs S.length body (args.map some ++ List.replicate (m - n) none) S = .rt d S) (hl : args.length = n) (hp : D.pure d = true) : run false n m body b args S = .ok d S :=
  (run_rt h hl hp).trans (by rw [List.take_length])
theorem fuel_is : fuel = 2 ^ 20000 := rfl

/-! ### loops -/
theorem while_go {b : Nat} {c : ME} {body : MSs} {n : Nat} {ρ ρ1 : Env} {S S1 S2 : Store} {d : D} (h1 : evE b c ρ S = .ok d S1) (h2 : truD S1 d = some true) (h3 : evSs b body ρ S1 = .nx ρ1 S2) : whileS b c body (n + 1) ρ S = whileS b c body n ρ1 S2 := by
  unfold whileS
  rw [whileL]
  simp only [h1, Res.st, h2, h3]
  rfl
theorem while_end {b : Nat} {c : ME} {body : MSs} {n : Nat} {ρ : Env} {S S1 : Store} {d : D} (h1 : evE b c ρ S = .ok d S1) (h2 : truD S1 d = some false) : whileS b c body (n + 1) ρ S = .nx ρ S1 := by
  unfold whileS
  rw [whileL]
  simp only [h1, Res.st, h2]
end Mn

/-! Plain: numbers within bounds, cells, lists. -/
namespace Mn
open PySem

/-- a number of no great size -/
def Sm (i : Int) : Prop := i.natAbs < 2 ^ 200
theorem log_le {n : Nat} (h : n < 2 ^ 200) : n.log2 ≤ 200 := by
  rcases Nat.eq_zero_or_pos n with e | e
  · subst e; decide
  · exact Nat.le_of_lt ((Nat.log2_lt (by omega)).mpr h)
theorem mul_sm {i j : Int} (h1 : Sm i) (h2 : Sm j) : mulOk i j = true := by
  unfold mulOk
  have a := log_le h1
  have b := log_le h2
  exact decide_eq_true (by omega)
theorem div_sm {j : Int} (h : 0 < j) (h2 : Sm j) : divOk j = true := by
  unfold divOk
  have b := log_le h2
  rw [Bool.and_eq_true]
  exact ⟨decide_eq_true h, decide_eq_true (by omega)⟩
theorem bin_mul' {m : Bool} {S : Store} {i j : Int} (h : Sm i) (h2 : Sm j) : binD m .mul (.int i) (.int j) S = .ok (.int (i * j)) S := bin_mul (mul_sm h h2)
theorem bin_div' {m : Bool} {S : Store} {i j : Int} (h : 0 < j) (h2 : Sm j) : binD m .fdiv (.int i) (.int j) S = .ok (.int (i / j)) S := bin_div (div_sm h h2)
theorem sm_mod {i j : Int} (h : 0 < j) (h2 : j < 2 ^ 190) : Sm (i % j) := by
  have a := Int.emod_nonneg i (Int.ne_of_gt h)
  have b := Int.emod_lt_of_pos i h
  unfold Sm
  have : (i % j).natAbs < 2 ^ 190 := by omega
  exact Nat.lt_trans this (by decide)
theorem sm_div {i j : Int} (h0 : 0 ≤ i) (h : 0 < j) (h2 : Sm i) : Sm (i / j) := by
  have a := Int.ediv_nonneg h0 (Int.le_of_lt h)
  have b := Int.ediv_le_self j h0
  unfold Sm at *
  omega
theorem sm_mul {i j : Int} (h : i.natAbs < 2 ^ 90) (h2 : j.natAbs < 2 ^ 90) : Sm (i * j) := by
  unfold Sm
  rw [Int.natAbs_mul]
  calc i.natAbs * j.natAbs < 2 ^ 90 * 2 ^ 90 := Nat.mul_lt_mul'' h h2
    _ < 2 ^ 200 := by decide
theorem sm_of {i : Int} {n : Nat} (h : i.natAbs ≤ n) (h2 : n < 2 ^ 200) : Sm i := Nat.lt_of_le_of_lt h h2

theorem bin_addL {m : Bool} {S : Store} {a b : List D} : binD m .add (.lst a) (.lst b) S = newL m (a ++ b) S := rfl
theorem bin_addT {m : Bool} {S : Store} {a b : List D} : binD m .add (.tup a) (.tup b) S = newT (a ++ b) S := rfl

/-! ### cells -/
theorem setC_at {b n : Nat} {c : Cell} {p : Bool} {S : Store} (hn : n < S.length) (hp : n < b → p = true) : setC b n c p S = some (S.set n c) := by
  unfold setC
  rw [if_neg]
  rintro (⟨h1, h2⟩ | h)
  · rw [hp h1] at h2; cases h2
  · omega
theorem app_at {b n : Nat} {m : Bool} {S : Store} {ds : List D} {d : D} (h : S[n]? = some (.lst ds)) (hl : ds.length < line) (hp : n < b → D.pure d = true) : bmD b m .append (.ref n) [d] S = .ok .non (S.set n (.lst (ds ++ [d]))) := by
  have hn : n < S.length := (List.getElem?_eq_some_iff.mp h).1
  show (match S[n]? with
    | some (.lst ds) => if ds.length < line then (match setC b n (.lst (ds ++ [d])) (D.pure d) S with
        | some S' => Res.ok D.non S'
        | none => .stuck) else .stuck
    | _ => .stuck) = _
  rw [h]
  simp only [if_pos hl, setC_at hn hp]
theorem sq_ref {n : Nat} {S : Store} {ds : List D} (h : S[n]? = some (.lst ds)) : seqOf S (.ref n) = some (true, ds) := by
  show (match S[n]? with | some (.lst ds) => some (true, ds) | some (.frz ds) => some (true, ds) | _ => none) = _
  rw [h]
theorem lst_ref {n : Nat} {S : Store} {ds : List D} (h : S[n]? = some (.lst ds)) : lstOf S (.ref n) = some ds := by
  show (match S[n]? with | some (.lst ds) => some ds | some (.frz ds) => some ds | _ => none) = _
  rw [h]
theorem truD_ref {n : Nat} {S : Store} {ds : List D} (h : S[n]? = some (.lst ds)) : truD S (.ref n) = some (!ds.isEmpty) := by
  show (seqOf S (.ref n)).map _ = _
  rw [sq_ref h]
  rfl
theorem len_ref {n : Nat} {m : Bool} {S : Store} {ds : List D} (h : S[n]? = some (.lst ds)) : biD m .len [.ref n] S = .ok (.int ds.length) S := by
  show (match seqOf S (.ref n) with | some (_, ds) => Res.ok (D.int ds.length) S | none => .stuck) = _
  rw [sq_ref h]
theorem ix_ref {n : Nat} {S : Store} {ds : List D} {k : Int} (h : S[n]? = some (.lst ds)) : ixS (.ref n) (.int k) S = ofO (atD ds k) S := by
  show (match seqOf S (.ref n) with | some (_, ds) => ofO (atD ds k) S | none => .stuck) = _
  rw [sq_ref h]
theorem sub_ref {b n : Nat} {S : Store} {ds : List D} {k : Int} {v : D} {ρ : Env} {j : Nat} (h : S[n]? = some (.lst ds)) (hk : ixD ds.length k = some j) (hp : n < b → D.pure v = true) : subS b (.ref n) (.int k) v ρ S = .nx ρ (S.set n (.lst (ds.set j v))) := by
  have hn : n < S.length := (List.getElem?_eq_some_iff.mp h).1
  unfold subS
  simp only [h, hk, setC_at hn hp]
theorem ixD_nat {n k : Nat} (h : k < n) : ixD n (k : Int) = some k := by
  unfold ixD
  rw [if_pos (by omega), if_pos (by omega)]
  simp
theorem itr_ref {n : Nat} {S : Store} {ds : List D} (h : S[n]? = some (.lst ds)) : iterD (.ref n) S = .ok (ds, [(n, ds)]) S := by
  unfold iterD
  rw [sq_ref h]
  rfl

/-! ### comprehensions that change nothing -/
theorem stays_nil {S : Store} : Src.stays [] S = true := rfl
theorem lc_pure {b : Nat} {own : List Nat} {elt : ME} {tg : Pat} {c : MO} {ρ : Env} {src : Src} {S : Store} {g : D → Option D} (hs : src.stays S = true) : ∀ {items : List D} {acc : List D}, (∀ d ∈ items, evC b tg c elt own ρ d S = .ok (g d) S) → acc.length + items.length ≤ line →
    lcL src (evC b tg c elt own ρ) items acc S = .ok (acc ++ items.filterMap g) S
  | [], acc, _, _ => by
    unfold lcL
    rw [if_pos hs]
    simp
  | d :: ds, acc, h, hl => by
    unfold lcL
    rw [if_pos hs, h d List.mem_cons_self]
    simp only [List.length_cons] at hl
    have ht := fun d' hd => h d' (List.mem_cons_of_mem _ hd)
    show (match g d with | some x => if acc.length < line then lcL src _ ds (acc ++ [x]) S else .stuck | none => lcL src _ ds acc S) = _
    cases hg : g d with
    | none =>
      rw [List.filterMap_cons_none hg]
      exact lc_pure hs ht (by omega)
    | some x =>
      simp only
      rw [if_pos (by omega), lc_pure hs ht (by simp; omega), List.filterMap_cons_some hg]
      simp
theorem lcS_pure {b : Nat} {own : List Nat} {elt : ME} {tg : Pat} {c : MO} {ρ : Env} {src : Src} {S : Store} {items : List D} (g : D → Option D) (hs : src.stays S = true) (h : ∀ d ∈ items, evC b tg c elt own ρ d S = .ok (g d) S) (hl : items.length ≤ line) :
    lcS b own elt tg c ρ src items S = .ok (items.filterMap g) S := by
  unfold lcS
  rw [lc_pure hs h (by simpa using hl)]
  simp
/-- no condition -/
theorem lcS_map {b : Nat} {own : List Nat} {elt : ME} {tg : Pat} {ρ : Env} {src : Src} {S : Store} {items : List D} (g : D → D) (hs : src.stays S = true) (h : ∀ d ∈ items, ∃ ρ1, bindP tg d (wipeD ρ own) = some ρ1 ∧ evE b elt ρ1 S = .ok (g d) S) (hl : items.length ≤ line) :
    lcS b own elt tg .none ρ src items S = .ok (items.map g) S := by
  rw [lcS_pure (fun d => some (g d)) hs (fun d hd => ?_) hl]
  · congr 1
    induction items with
    | nil => rfl
    | cons d ds ih => simp
  · obtain ⟨ρ1, h1, h2⟩ := h d hd
    unfold evC
    rw [h1]
    simp only [evO, Res.bind, truO, if_true, h2]
/-- with a condition -/
theorem lcS_if {b : Nat} {own : List Nat} {elt : ME} {tg : Pat} {c : ME} {ρ : Env} {src : Src} {S : Store} {items : List D} (p : D → Bool) (g : D → D) (hs : src.stays S = true)
    (h : ∀ d ∈ items, ∃ ρ1 t, bindP tg d (wipeD ρ own) = some ρ1 ∧ evE b c ρ1 S = .ok t S ∧ truD S t = some (p d) ∧ (p d = true → evE b elt ρ1 S = .ok (g d) S)) (hl : items.length ≤ line) :
    lcS b own elt tg (.some c) ρ src items S = .ok ((items.filter p).map g) S := by
  rw [lcS_pure (fun d => if p d then some (g d) else none) hs (fun d hd => ?_) hl]
  · congr 1
    clear h hl
    induction items with
    | nil => rfl
    | cons d ds ih =>
      cases hp : p d with
      | true => simp [hp, ih]
      | false => simp [hp, ih]
  · obtain ⟨ρ1, t, h1, h2, h3, h4⟩ := h d hd
    unfold evC
    rw [h1]
    simp only [evO, Res.bind, truO, h2, tru1, h3]
    cases hp : p d with
    | true => simp only [if_true, h4 hp]
    | false => simp
/-! ### loops over things -/
theorem for_inv {b : Nat} {p : Pat} {body : MSs} {src : Src} {P : Nat → Env → Store → Prop} {items : List D} (hs : ∀ i ρ S, P i ρ S → src.stays S = true)
    (h : ∀ i d ρ S, items[i]? = some d → P i ρ S → ∃ ρ' S', forF b p body d ρ S = .nx ρ' S' ∧ P (i + 1) ρ' S') : ∀ {ρ S}, P 0 ρ S → ∃ ρ' S', forS b p body src items ρ S = .nx ρ' S' ∧ P items.length ρ' S' := by
  have key : ∀ (k : Nat) {ρ S}, k ≤ items.length → P (items.length - k) ρ S → ∃ ρ' S', forL src (forF b p body) (items.drop (items.length - k)) ρ S = .nx ρ' S' ∧ P items.length ρ' S' := by
    intro k
    induction k with
    | zero =>
      intro ρ S _ hP
      rw [Nat.sub_zero] at hP ⊢
      rw [List.drop_length]
      unfold forL
      rw [if_pos (hs _ _ _ hP)]
      exact ⟨ρ, S, rfl, hP⟩
    | succ k ih =>
      intro ρ S hk hP
      have hi : items.length - (k + 1) < items.length := by omega
      rw [List.drop_eq_getElem_cons hi]
      unfold forL
      rw [if_pos (hs _ _ _ hP)]
      obtain ⟨ρ1, S1, e1, h1⟩ := h _ _ _ _ (List.getElem?_eq_getElem hi) hP
      rw [e1]
      have e2 : items.length - (k + 1) + 1 = items.length - k := by omega
      rw [e2] at h1 ⊢
      exact ih (by omega) h1
  intro ρ S hP
  have := key items.length (Nat.le_refl _) (by rw [Nat.sub_self]; exact hP)
  rw [Nat.sub_self, List.drop_zero] at this
  exact this
/-- a loop that may return -/
theorem for_ret {b : Nat} {p : Pat} {body : MSs} {src : Src} {v : D} {ok : D → Bool} {P : Env → Prop} {S : Store} (hs : src.stays S = true) : ∀ {items : List D},
    (∀ d ∈ items, ∀ ρ, P ρ → (ok d = true → ∃ ρ', forF b p body d ρ S = .nx ρ' S ∧ P ρ') ∧ (ok d = false → forF b p body d ρ S = .rt v S)) → ∀ ρ, P ρ →
    (items.all ok = true → ∃ ρ', forS b p body src items ρ S = .nx ρ' S ∧ P ρ') ∧ (items.all ok = false → forS b p body src items ρ S = .rt v S)
  | [], _, ρ, hP => by
    refine ⟨fun _ => ⟨ρ, ?_, hP⟩, fun h => by simp at h⟩
    unfold forS forL
    rw [if_pos hs]
  | d :: ds, h, ρ, hP => by
    have hd := h d List.mem_cons_self ρ hP
    have ht := for_ret hs (items := ds) fun d' hm => h d' (List.mem_cons_of_mem _ hm)
    have e : forS b p body src (d :: ds) ρ S = (forF b p body d ρ S).seq fun ρ1 S1 => forS b p body src ds ρ1 S1 := by
      unfold forS
      rw [forL, if_pos hs]
    rw [e]
    cases ho : ok d with
    | true =>
      obtain ⟨ρ', e1, hP'⟩ := hd.1 ho
      rw [e1, List.all_cons, ho, Bool.true_and]
      exact ht ρ' hP'
    | false =>
      rw [hd.2 ho, List.all_cons, ho, Bool.false_and]
      exact ⟨fun h => (by cases h), fun _ => rfl⟩

/-! ### comparing data -/
def nest : Nat → D → Bool
  | _, .int _ => true
  | _, .bl _ => true
  | _, .non => true
  | n + 1, .tup ds => ds.all (nest n)
  | n + 1, .lst ds => ds.all (nest n)
  | _, _ => false
theorem nest_is : ∀ (n : Nat) {d : D}, nest n d = true → PyData.canLay0 (D.py d) = true ∧ PyData.depth (D.py d) ≤ n := by
  have all : ∀ (n : Nat), (∀ {d : D}, nest n d = true → PyData.canLay0 (D.py d) = true ∧ PyData.depth (D.py d) ≤ n) → ∀ {ds : List D}, ds.all (nest n) = true → PyData.canLayAll0 (D.pys ds) = true ∧ PyData.depthAll (D.pys ds) ≤ n := by
    intro n ih ds
    induction ds with
    | nil => intro _; exact ⟨rfl, Nat.zero_le _⟩
    | cons d r ihr =>
      intro h
      rw [List.all_cons, Bool.and_eq_true] at h
      obtain ⟨a, b⟩ := ih h.1
      obtain ⟨c, e⟩ := ihr h.2
      refine ⟨?_, ?_⟩
      · show PyData.canLayAll0 (D.py d :: D.pys r) = true
        rw [PyData.canLayAll0, a, c]; rfl
      · show PyData.depthAll (D.py d :: D.pys r) ≤ n
        rw [PyData.depthAll]
        exact Nat.max_le.mpr ⟨b, e⟩
  intro n
  induction n with
  | zero =>
    intro d h
    cases d with
    | int _ => exact ⟨rfl, Nat.le_refl _⟩
    | bl _ => exact ⟨rfl, Nat.le_refl _⟩
    | non => exact ⟨rfl, Nat.le_refl _⟩
    | _ => simp [nest] at h
  | succ n ih =>
    intro d h
    cases d with
    | int _ => exact ⟨rfl, Nat.zero_le _⟩
    | bl _ => exact ⟨rfl, Nat.zero_le _⟩
    | non => exact ⟨rfl, Nat.zero_le _⟩
    | tup ds =>
      obtain ⟨a, b⟩ := all n ih (ds := ds) (by simpa [nest] using h)
      simp only [D.py]
      rw [PyData.canLay0, PyData.depth]
      exact ⟨a, Nat.succ_le_succ b⟩
    | lst ds =>
      obtain ⟨a, b⟩ := all n ih (ds := ds) (by simpa [nest] using h)
      simp only [D.py]
      rw [PyData.canLay0, PyData.depth]
      exact ⟨a, Nat.succ_le_succ b⟩
    | _ => simp [nest] at h
theorem nest_shaped {n : Nat} {d : D} (h : nest n d = true) (hn : n ≤ 64) : SeqAt.shaped (D.py d) = true := by
  obtain ⟨a, b⟩ := nest_is n h
  unfold SeqAt.shaped
  rw [a, Bool.true_and]
  exact decide_eq_true (Nat.le_trans b hn)
theorem pyS_pure {S : Store} {d : D} (h : D.pure d = true) : pyS S d = some (D.py d) := by
  unfold pyS resD
  rw [if_pos h]
  rfl
theorem cmp_eq_data {S : Store} {x y : D} {n : Nat} (hx : D.pure x = true) (hy : D.pure y = true) (nx : nest n x = true) (ny : nest n y = true) (hn : n ≤ 64) : cmpD .eq x y S = .ok (.bl (PyData.eqv (D.py x) (D.py y))) S := by
  show (match pyS S x, pyS S y with
    | some a, some b => if SeqAt.shaped a && SeqAt.shaped b then Res.ok (D.bl (PyData.eqv a b)) S else .stuck
    | _, _ => .stuck) = _
  rw [pyS_pure hx, pyS_pure hy]
  simp only
  rw [nest_shaped nx hn, nest_shaped ny hn]
  rfl
theorem eqvAll_nil {xs : List D} : PyData.eqvAll (D.pys xs) (D.pys []) = xs.isEmpty := by
  cases xs with
  | nil => rfl
  | cons x r => rfl
theorem cmp_eq_empty {S : Store} {xs : List D} {n : Nat} (hx : D.pures xs = true) (nx : xs.all (nest n) = true) (hn : n < 64) : cmpD .eq (.lst xs) (.lst []) S = .ok (.bl xs.isEmpty) S := by
  rw [cmp_eq_data (n := n + 1) (x := .lst xs) (y := .lst []) hx rfl (by simpa [nest] using nx) rfl (by omega)]
  show Res.ok (D.bl (PyData.eqv (.list (D.pys xs)) (.list (D.pys [])))) S = _
  rw [PyData.eqv, eqvAll_nil]
end Mn

/-! Plain: comprehensions that change cells; more of data. -/
namespace Mn
open PySem
theorem lc_inv {b : Nat} {own : List Nat} {elt : ME} {tg : Pat} {c : MO} {ρ : Env} {src : Src} {P : Nat → List D → Store → Prop} {items : List D} (hl : items.length ≤ line) (hs : ∀ i acc S, P i acc S → src.stays S = true) (ha : ∀ i acc S, P i acc S → acc.length ≤ i)
    (h : ∀ i d acc S, items[i]? = some d → P i acc S → ∃ o S', evC b tg c elt own ρ d S = .ok o S' ∧ P (i + 1) (acc ++ o.toList) S') : ∀ {S}, P 0 [] S → ∃ ds S', lcS b own elt tg c ρ src items S = .ok ds S' ∧ P items.length ds S' := by
  have key : ∀ (k : Nat) {acc S}, k ≤ items.length → P (items.length - k) acc S → ∃ ds S', lcL src (evC b tg c elt own ρ) (items.drop (items.length - k)) acc S = .ok ds S' ∧ P items.length ds S' := by
    intro k
    induction k with
    | zero =>
      intro acc S _ hP
      rw [Nat.sub_zero] at hP ⊢
      rw [List.drop_length]
      unfold lcL
      rw [if_pos (hs _ _ _ hP)]
      exact ⟨acc, S, rfl, hP⟩
    | succ k ih =>
      intro acc S hk hP
      have hi : items.length - (k + 1) < items.length := by omega
      rw [List.drop_eq_getElem_cons hi]
      unfold lcL
      rw [if_pos (hs _ _ _ hP)]
      obtain ⟨o, S1, e1, h1⟩ := h _ _ _ _ (List.getElem?_eq_getElem hi) hP
      have hacc := ha _ _ _ hP
      rw [e1]
      have e2 : items.length - (k + 1) + 1 = items.length - k := by omega
      rw [e2] at h1 ⊢
      cases o with
      | none =>
        rw [Option.toList_none, List.append_nil] at h1
        exact ih (by omega) h1
      | some y =>
        show ∃ ds S', (if acc.length < line then lcL src _ _ (acc ++ [y]) S1 else .stuck) = .ok ds S' ∧ _
        rw [if_pos (by omega)]
        exact ih (by omega) h1
  intro S hP
  have := key items.length (Nat.le_refl _) (by rw [Nat.sub_self]; exact hP)
  rw [Nat.sub_self, List.drop_zero] at this
  exact this
theorem evC_map {b : Nat} {own : List Nat} {elt : ME} {tg : Pat} {ρ ρ1 : Env} {d r : D} {S S' : Store} (h1 : bindP tg d (wipeD ρ own) = some ρ1) (h2 : evE b elt ρ1 S = .ok r S') : evC b tg .none elt own ρ d S = .ok (some r) S' := by
  unfold evC
  rw [h1]
  simp only [evO, Res.bind, truO, if_true, h2]
theorem stays_self {n : Nat} {ds : List D} {S : Store} (h : S[n]? = some (.lst ds)) : Src.stays [(n, ds)] S = true := by
  unfold Src.stays
  simp only [List.all_cons, List.all_nil, Bool.and_true]
  rw [h]
  exact D.sames_refl ds
theorem intsOf_map' : ∀ ns : List Int, intsOf (ns.map D.int) = some ns
  | [] => rfl
  | n :: ns => by
    show (intsOf (ns.map D.int)).map _ = _
    rw [intsOf_map' ns]; rfl
theorem sum_ref {m : Bool} {n : Nat} {S : Store} {ns : List Int} (h : S[n]? = some (.lst (ns.map D.int))) : biD m .sum [.ref n] S = .ok (.int ns.sum) S := by
  show (match (seqOf S (.ref n)).bind fun p => intsOf p.2 with | some ns => Res.ok (D.int ns.sum) S | _ => .stuck) = _
  rw [sq_ref h]
  have : (some (true, ns.map D.int)).bind (fun p : Bool × List D => intsOf p.2) = some ns := intsOf_map' ns
  rw [this]
theorem tuple_lst {m : Bool} {S : Store} {ds : List D} : biD m .tuple [.lst ds] S = .ok (.tup ds) S := rfl
theorem list_tup {S : Store} {ds : List D} : biD false .list [.tup ds] S = newL false ds S := rfl
theorem cmp_nebl {S : Store} {p q : Bool} : cmpD .ne (.bl p) (.bl q) S = .ok (.bl (p != q)) S := by cases p <;> cases q <;> rfl
theorem cmp_eqLN {S : Store} : cmpD .eq (.lst []) (.lst []) S = .ok (.bl true) S := rfl
theorem rngN_get {n i : Nat} {d : D} (h : ((List.range n).map fun i => D.int (i : Nat))[i]? = some d) : d = .int (i : Nat) ∧ i < n := by
  rw [List.getElem?_map] at h
  by_cases hi : i < n
  · rw [List.getElem?_range hi] at h
    cases h
    exact ⟨rfl, hi⟩
  · rw [List.getElem?_eq_none (by simpa using hi)] at h
    cases h
mutual
/-- plain data: numbers and lengths at most B -/
def Plk (B : Nat) : D → Prop
  | .int i => i.natAbs ≤ B
  | .tup ds => ds.length ≤ B ∧ Plks B ds
  | .lst ds => ds.length ≤ B ∧ Plks B ds
  | .ref _ => False
  | .scr _ => False
  | _ => True
def Plks (B : Nat) : List D → Prop
  | [] => True
  | d :: r => Plk B d ∧ Plks B r
end
theorem plks_mem {B : Nat} : ∀ {ds : List D}, Plks B ds ↔ ∀ d ∈ ds, Plk B d
  | [] => by simp [Plks]
  | e :: r => by simp only [Plks, plks_mem (ds := r), List.forall_mem_cons]
mutual
theorem plk_mono {B C : Nat} (h : B ≤ C) : ∀ {d : D}, Plk B d → Plk C d
  | .non, _ => by simp [Plk]
  | .bl _, _ => by simp [Plk]
  | .int _, q => by simp only [Plk] at q ⊢; omega
  | .str _, _ => by simp [Plk]
  | .tup ds, q => by simp only [Plk] at q ⊢; exact ⟨by omega, plks_mono h q.2⟩
  | .lst ds, q => by simp only [Plk] at q ⊢; exact ⟨by omega, plks_mono h q.2⟩
  | .ref _, q => by simp [Plk] at q
  | .scr _, q => by simp [Plk] at q
theorem plks_mono {B C : Nat} (h : B ≤ C) : ∀ {ds : List D}, Plks B ds → Plks C ds
  | [], _ => by simp [Plks]
  | d :: r, q => by simp only [Plks] at q ⊢; exact ⟨plk_mono h q.1, plks_mono h q.2⟩
end
mutual
theorem plk_pure {B : Nat} : ∀ {d : D}, Plk B d → D.pure d = true
  | .non, _ => rfl
  | .bl _, _ => rfl
  | .int _, _ => rfl
  | .str _, _ => rfl
  | .tup ds, h => by simp only [Plk] at h; simp only [D.pure]; exact plks_pure h.2
  | .lst ds, h => by simp only [Plk] at h; simp only [D.pure]; exact plks_pure h.2
  | .ref _, h => by simp [Plk] at h
  | .scr _, h => by simp [Plk] at h
theorem plks_pure {B : Nat} : ∀ {ds : List D}, Plks B ds → D.pures ds = true
  | [], _ => rfl
  | d :: r, h => by simp only [Plks] at h; simp only [D.pures, Bool.and_eq_true]; exact ⟨plk_pure h.1, plks_pure h.2⟩
end
/-- tuples within tuples -/
def dep : Nat → D → Prop
  | n + 1, .tup ds => ∀ d ∈ ds, dep n d
  | 0, .tup _ => False
  | _, _ => True
theorem dep_mono : ∀ {n m : Nat} {d : D}, n ≤ m → dep n d → dep m d
  | n, m, .non, _, _ => by cases m <;> simp [dep]
  | n, m, .bl _, _, _ => by cases m <;> simp [dep]
  | n, m, .int _, _, _ => by cases m <;> simp [dep]
  | n, m, .str _, _, _ => by cases m <;> simp [dep]
  | n, m, .lst _, _, _ => by cases m <;> simp [dep]
  | n, m, .ref _, _, _ => by cases m <;> simp [dep]
  | n, m, .scr _, _, _ => by cases m <;> simp [dep]
  | 0, m, .tup ds, _, h => by simp [dep] at h
  | n + 1, 0, .tup ds, h, _ => by omega
  | n + 1, m + 1, .tup ds, hl, h => by
    simp only [dep] at h ⊢
    exact fun d hd => dep_mono (by omega) (h d hd)
end Mn

/-! Plain: what must hold before (a goal is a proposition, read from the outside in). -/
namespace Mn
open PySem
@[irreducible] def SRes.wp (r : SRes) (N : Env → Store → Prop) (R : D → Store → Prop) (X : Nat → Store → Prop) : Prop := match r with
  | .nx ρ S => N ρ S
  | .rt d S => R d S
  | .exc c _ S => X c S
  | .stuck => False
/-- nothing is raised -/
def noX : Nat → Store → Prop := fun _ _ => False
/-- a structure: so that nobody reckons out what is said -/
structure Res.WX {α : Type} (r : Res α) (Q : α → Store → Prop) (X : Nat → Store → Prop) : Prop where of ::
  cps : r.cps Q X False
abbrev Res.W {α : Type} (r : Res α) (Q : α → Store → Prop) : Prop := r.WX Q noX
def wpV (ρ : Env) (i : Nat) (v : D) (k : Env → Prop) : Prop := i < ρ.length ∧ k (ρ.set i (some v))
@[irreducible] def wpB (p : Pat) (d : D) (ρ : Env) (k : Env → Prop) : Prop := match bindP p d ρ with
  | some ρ1 => k ρ1
  | none => False
section
variable {b : Nat} {ρ : Env} {S : Store} {N : Env → Store → Prop} {R : D → Store → Prop} {X : Nat → Store → Prop}
@[simp ↓] theorem wp_nx : (SRes.nx ρ S).wp N R X = N ρ S := by unfold SRes.wp; rfl
@[simp ↓] theorem wp_rt {d : D} : (SRes.rt d S).wp N R X = R d S := by unfold SRes.wp; rfl
@[simp ↓] theorem wp_exc {c : Nat} : (SRes.exc c ρ S).wp N R X = X c S := by unfold SRes.wp; rfl
@[simp ↓] theorem wp_stuck : (SRes.stuck).wp N R X = False := by unfold SRes.wp; rfl
theorem wp_st {α : Type} {r : Res α} {k : α → Store → SRes} : (r.st ρ k).wp N R X = r.cps (fun a S => (k a S).wp N R X) X False := by cases r <;> (unfold SRes.wp Res.cps; rfl)
theorem wp_seq {r : SRes} {f : Env → Store → SRes} : (r.seq f).wp N R X = r.wp (fun ρ S => (f ρ S).wp N R X) R X := by cases r <;> (simp only [SRes.seq]; unfold SRes.wp; rfl)
@[simp ↓] theorem wp_ite {p : Prop} [Decidable p] {u v : SRes} : (if p then u else v).wp N R X = if p then u.wp N R X else v.wp N R X := by split <;> rfl
@[simp ↓] theorem wpV_zero {a : Option D} {v : D} {k : Env → Prop} : wpV (a :: ρ) 0 v k = k (some v :: ρ) := by simp [wpV]
@[simp ↓] theorem wpV_succ {a : Option D} {i : Nat} {v : D} {k : Env → Prop} : wpV (a :: ρ) (i + 1) v k = wpV ρ i v fun ρ1 => k (a :: ρ1) := by simp [wpV]
@[simp ↓] theorem wpB_one {i : Nat} {d : D} {k : Env → Prop} : wpB (.one i) d ρ k = wpV ρ i d k := by
  unfold wpB wpV
  simp only [bindP]
  by_cases h : i < ρ.length <;> simp [h]
@[simp ↓] theorem wpB_2 {i j : Nat} {d e : D} {k : Env → Prop} : wpB (.tup [i, j]) (.tup [d, e]) ρ k = wpV ρ i d fun ρ1 => wpV ρ1 j e k := by
  unfold wpB wpV
  simp only [bindP, List.length_cons, List.length_nil, List.all_cons, List.all_nil, Bool.and_true, Bool.and_eq_true, decide_eq_true_eq, List.length_set, true_and]
  by_cases h : i < ρ.length ∧ j < ρ.length
  · rw [if_pos h]; simp [h.1, h.2]
  · rw [if_neg h]; simp only [false_iff, eq_iff_iff]; intro ⟨h1, h2, _⟩; exact h ⟨h1, h2⟩
@[simp ↓] theorem wpB_3 {i j l : Nat} {d e f : D} {k : Env → Prop} : wpB (.tup [i, j, l]) (.tup [d, e, f]) ρ k = wpV ρ i d fun ρ1 => wpV ρ1 j e fun ρ2 => wpV ρ2 l f k := by
  unfold wpB wpV
  simp only [bindP, List.length_cons, List.length_nil, List.all_cons, List.all_nil, Bool.and_true, Bool.and_eq_true, decide_eq_true_eq, List.length_set, true_and]
  by_cases h : i < ρ.length ∧ j < ρ.length ∧ l < ρ.length
  · rw [if_pos h]; simp [h.1, h.2.1, h.2.2]
  · rw [if_neg h]; simp only [false_iff, eq_iff_iff]; intro ⟨h1, h2, h3, _⟩; exact h ⟨h1, h2, h3⟩
@[simp ↓] theorem wp_nil : (evSs b .nil ρ S).wp N R X = N ρ S := by unfold SRes.wp; rfl
@[simp ↓] theorem wp_cons {s : MS} {r : MSs} : (evSs b (.cons s r) ρ S).wp N R X = (evS b s ρ S).wp (fun ρ1 S1 => (evSs b r ρ1 S1).wp N R X) R X := by rw [evSs, wp_seq]
@[simp ↓] theorem wp_asg {i : Nat} {e : ME} : (evS b (.asg (.var i) e) ρ S).wp N R X = (evE b e ρ S).cps (fun v S1 => wpV ρ i v fun ρ1 => N ρ1 S1) X False := by
  rw [evS, wp_st]; congr 1; funext v S1
  unfold stT wpV
  by_cases h : i < ρ.length
  · simp [h]
  · simp [h]
@[simp ↓] theorem wp_put {p q e : ME} : (evS b (.asg (.sub p q) e) ρ S).wp N R X = (evE b e ρ S).cps (fun v S1 => (evE b p ρ S1).cps (fun d S2 => (evE b q ρ S2).cps (fun j S3 => (subS b d j v ρ S3).wp N R X) X False) X False) X False := by
  rw [evS, wp_st]; congr 1; funext v S1; rw [stT, wp_st]; congr 1; funext d S2; rw [wp_st]; rfl
@[simp ↓] theorem wp_asgT {ts : List MT} {e : ME} : (evS b (.asgT ts e) ρ S).wp N R X = (evE b e ρ S).cps (fun v S1 => (tupS b ts v ρ S1).wp N R X) X False := by
  rw [evS, wp_st]; rfl
@[simp ↓] theorem wp_tupS {ts : List MT} {ds : List D} : (tupS b ts (.tup ds) ρ S).wp N R X = (ds.length = ts.length ∧ (stTs b ts ds ρ S).wp N R X) := by
  unfold tupS
  by_cases h : ds.length = ts.length <;> simp [h]
@[simp ↓] theorem wp_ts0 : (stTs b [] [] ρ S).wp N R X = N ρ S := by rw [stTs]; exact wp_nx
@[simp ↓] theorem wp_tsV {i : Nat} {ts : List MT} {v : D} {vs : List D} : (stTs b (.var i :: ts) (v :: vs) ρ S).wp N R X = wpV ρ i v fun ρ1 => (stTs b ts vs ρ1 S).wp N R X := by
  rw [stTs, wp_seq]
  unfold stT wpV
  by_cases h : i < ρ.length <;> simp [h]
@[simp ↓] theorem wp_tsS {p q : ME} {ts : List MT} {v : D} {vs : List D} : (stTs b (.sub p q :: ts) (v :: vs) ρ S).wp N R X = (evE b p ρ S).cps (fun d S2 => (evE b q ρ S2).cps (fun j S3 => (subS b d j v ρ S3).wp (fun ρ1 S4 => (stTs b ts vs ρ1 S4).wp N R X) R X) X False) X False := by
  rw [stTs, wp_seq, stT, wp_st]; congr 1; funext d S2; rw [wp_st]; rfl
@[simp ↓] theorem wp_par {is : List Nat} {es : MEs} : (evS b (.par is es) ρ S).wp N R X = (evEs b es ρ S).cps (fun ds S1 => wpB (.tup is) (.tup ds) ρ fun ρ1 => N ρ1 S1) X False := by
  rw [evS, wp_st]; congr 1; funext ds S1
  unfold wpB
  cases bindP (.tup is) (.tup ds) ρ <;> (unfold SRes.wp; rfl)
@[simp ↓] theorem wp_expr {e : ME} : (evS b (.expr e) ρ S).wp N R X = (evE b e ρ S).cps (fun v S1 => N ρ S1) X False := by
  rw [evS, wp_st]; congr 1; funext v S1; exact wp_nx
@[simp ↓] theorem wp_ret {e : ME} : (evS b (.ret e) ρ S).wp N R X = (evE b e ρ S).cps R X False := by
  rw [evS, wp_st]; congr 1; funext v S1; exact wp_rt
@[simp ↓] theorem wp_if {c : ME} {p q : MSs} : (evS b (.ifs c p q) ρ S).wp N R X = (evE b c ρ S).cps (fun d S1 => tcase (truD S1 d) ((evSs b p ρ S1).wp N R X) ((evSs b q ρ S1).wp N R X) False) X False := by
  rw [evS, wp_st]; congr 1; funext d S1
  cases truD S1 d with
  | none => exact wp_stuck
  | some t => cases t <;> rfl
@[simp ↓] theorem wp_for {p : Pat} {it : MI} {body : MSs} : (evS b (.for_ p it body) ρ S).wp N R X = (evI b it ρ S).cps (fun q S1 => (forS b p body q.2 q.1 ρ S1).wp N R X) X False := by
  rw [evS, wp_st]; rfl
@[simp ↓] theorem wp_while {c : ME} {body : MSs} : (evS b (.whil c body) ρ S).wp N R X = (whileS b c body fuel ρ S).wp N R X := by rw [evS]; rfl
@[simp ↓] theorem wp_rais {n : Str} {c : Nat} : (evS b (.rais n c) ρ S).wp N R X = X c S := by rw [evS]; exact wp_exc
/-- what a handler returns -/
def hnd (hs : List (Str × Nat × Str)) (c : Nat) (k : D → Prop) : Prop := match List.find? (fun h : Str × Nat × Str => h.2.1 == c) hs with
  | some h => k (.str h.2.2)
  | none => False
@[simp ↓] theorem wp_try {body : MSs} {hs : List (Str × Nat × Str)} : (evS b (.tryc body hs) ρ S).wp N R X = (evSs b body ρ S).wp N R (fun c S1 => hnd hs c fun d => R d S1) := by
  rw [evS]
  cases evSs b body ρ S with
  | exc c ρ1 S1 =>
    rw [wp_exc]
    unfold hnd
    simp only
    cases hs.find? (fun h : Str × Nat × Str => h.2.1 == c) with
    | some h => exact wp_rt
    | none => exact wp_stuck
  | nx ρ1 S1 => exact wp_nx.trans wp_nx.symm
  | rt d S1 => exact wp_rt.trans wp_rt.symm
  | stuck => exact wp_stuck.trans wp_stuck.symm
@[simp ↓] theorem hnd_cons {n v : Str} {i c : Nat} {hs : List (Str × Nat × Str)} {k : D → Prop} : hnd ((n, i, v) :: hs) c k = if (i == c) = true then k (.str v) else hnd hs c k := by
  unfold hnd
  rw [List.find?_cons]
  cases h : (i == c) <;> simp
end
section
variable {α : Type} {r : Res α} {Q k : α → Store → Prop} {x : Nat → Store → Prop} {z : Prop} {S : Store} {v : α}
theorem W_then (h : r.W Q) (hk : ∀ a S, Q a S → k a S) : r.cps k x z := by
  have h := h.cps
  cases r with
  | ok a S => rw [cps_ok] at h ⊢; exact hk a S h
  | exc c S => rw [cps_exc] at h; exact h.elim
  | stuck => rw [cps_stuck] at h; exact h.elim
theorem cps_then {X : Nat → Store → Prop} (h : r.WX Q X) (hk : ∀ a S, Q a S → k a S) (hx : ∀ c S, X c S → x c S) : r.cps k x z := by
  have h := h.cps
  cases r with
  | ok a S => rw [cps_ok] at h ⊢; exact hk a S h
  | exc c S => rw [cps_exc] at h ⊢; exact hx c S h
  | stuck => rw [cps_stuck] at h; exact h.elim
theorem eq_of_cps (h : r.cps (fun a S' => a = v ∧ S' = S) noX False) : r = .ok v S := by
  cases r with
  | ok a S' => rw [cps_ok] at h; obtain ⟨rfl, rfl⟩ := h; rfl
  | exc c S => rw [cps_exc] at h; exact h.elim
  | stuck => rw [cps_stuck] at h; exact h.elim
theorem W_of_eq (h : r = .ok v S) (hq : Q v S) : r.W Q := by rw [h]; exact ⟨by rw [cps_ok]; exact hq⟩
theorem cps_eq (h : r = .ok v S) (hk : k v S) : r.cps k x z := by rw [h, cps_ok]; exact hk
theorem cps_ex (h : r.cps Q noX False) : ∃ a S, r = .ok a S ∧ Q a S := by
  cases r with
  | ok a S => rw [cps_ok] at h; exact ⟨a, S, rfl, h⟩
  | exc c S => rw [cps_exc] at h; exact h.elim
  | stuck => rw [cps_stuck] at h; exact h.elim
end
theorem wp_then {r : SRes} {N N' : Env → Store → Prop} {R R' : D → Store → Prop} {X X' : Nat → Store → Prop} (h : r.wp N R X) (hn : ∀ ρ S, N ρ S → N' ρ S) (hr : ∀ d S, R d S → R' d S) (hx : ∀ c S, X c S → X' c S) : r.wp N' R' X' := by
  cases r with
  | nx ρ S => rw [wp_nx] at h ⊢; exact hn _ _ h
  | rt d S => rw [wp_rt] at h ⊢; exact hr _ _ h
  | exc c ρ S => rw [wp_exc] at h ⊢; exact hx _ _ h
  | stuck => rw [wp_stuck] at h; exact h.elim
/-- a def -/
theorem run_cps {n m : Nat} {body : MSs} {b : Nat} {args : List D} {S : Store} {Q : D → Store → Prop} {X : Nat → Store → Prop} (hl : args.length = n)
    (h : (evSs S.length body (args.map some ++ List.replicate (m - n) none) S).wp (fun _ S' => Q .non (S'.take S.length)) (fun d S' => D.pure d = true ∧ Q d (S'.take S.length)) (fun c S' => X c (S'.take S.length))) :
    (run false n m body b args S).WX Q X := by
  constructor
  unfold run
  rw [if_pos hl]
  simp only [Bool.false_eq_true, if_false]
  cases e : evSs S.length body (args.map some ++ List.replicate (m - n) none) S with
  | nx ρ S' =>
    rw [e, wp_nx] at h
    unfold fin
    simp only [Bool.false_eq_true, if_false, D.pure, if_true]
    rw [cps_ok]
    exact h
  | rt d S' =>
    rw [e, wp_rt] at h
    unfold fin
    simp only [Bool.false_eq_true, if_false]
    rw [if_pos h.1, cps_ok]
    exact h.2
  | exc c ρ S' =>
    rw [e, wp_exc] at h
    simp only [Bool.false_eq_true, if_false]
    rw [cps_exc]
    exact h
  | stuck => rw [e, wp_stuck] at h; exact h.elim
theorem run_W {n m : Nat} {body : MSs} {b : Nat} {args : List D} {S : Store} {Q : D → Store → Prop} (hl : args.length = n)
    (h : (evSs S.length body (args.map some ++ List.replicate (m - n) none) S).wp (fun _ S' => Q .non (S'.take S.length)) (fun d S' => D.pure d = true ∧ Q d (S'.take S.length)) noX) :
    (run false n m body b args S).W Q := run_cps hl h
/-- a def that changes nothing -/
theorem run_eq {n m : Nat} {body : MSs} {b : Nat} {args : List D} {S : Store} {v : D} (hl : args.length = n) (hp : D.pure v = true)
    (h : (evSs S.length body (args.map some ++ List.replicate (m - n) none) S).wp (fun _ _ => False) (fun d S' => d = v ∧ S'.take S.length = S) noX) :
    run false n m body b args S = .ok v S :=
  eq_of_cps (Res.WX.cps (run_cps hl (wp_then h (fun _ _ h => h.elim) (fun d S' h => ⟨by rw [h.1]; exact hp, h.1, h.2⟩) (fun _ _ h => h.elim))))
@[simp] theorem take_self {S : Store} : S.take S.length = S := List.take_length
@[simp] theorem take_app {S T : Store} : (S ++ T).take S.length = S := by simp

/-! ### comprehensions -/
section
variable {α : Type} {b : Nat} {own : List Nat} {elt : ME} {tg : Pat} {c : ME} {ρ : Env} {src : Src} {S : Store}
theorem pat_wp {k : Env → Prop} {d : D} (h : wpB tg d ρ k) : ∃ ρ1, bindP tg d ρ = some ρ1 ∧ k ρ1 := by
  unfold wpB at h
  cases e : bindP tg d ρ with
  | some ρ1 => rw [e] at h; exact ⟨ρ1, rfl, h⟩
  | none => rw [e] at h; exact h.elim
theorem lc_map {f : α → D} {xs : List α} (g : α → D) {k : List D → Store → Prop} {x : Nat → Store → Prop} {z : Prop} (hs : src.stays S = true) (hl : xs.length ≤ line)
    (h : ∀ a ∈ xs, wpB tg (f a) (wipeD ρ own) fun ρ1 => (evE b elt ρ1 S).cps (fun v S' => v = g a ∧ S' = S) noX False) (hk : k (xs.map g) S) : (lcS b own elt tg .none ρ src (xs.map f) S).cps k x z := by
  refine cps_eq (v := xs.map g) (S := S) ?_ hk
  unfold lcS
  have key : ∀ (ys : List α) (acc : List D), (∀ a ∈ ys, a ∈ xs) → acc.length + ys.length ≤ line → lcL src (evC b tg .none elt own ρ) (ys.map f) acc S = .ok (acc ++ ys.map g) S := by
    intro ys
    induction ys with
    | nil => intro acc _ _; simp [lcL, hs]
    | cons a r ih =>
      intro acc hm hl
      simp only [List.length_cons] at hl
      obtain ⟨ρ1, e1, h1⟩ := pat_wp (h a (hm a List.mem_cons_self))
      have e2 := eq_of_cps h1
      simp only [List.map_cons]
      unfold lcL
      rw [if_pos hs]
      have e3 : evC b tg .none elt own ρ (f a) S = .ok (some (g a)) S := by
        unfold evC
        rw [e1]
        simp only [evO, Res.bind, truO, if_true, e2]
      rw [e3]
      show (if acc.length < line then lcL src _ (r.map f) (acc ++ [g a]) S else .stuck) = _
      rw [if_pos (by omega), ih (acc ++ [g a]) (fun b hb => hm b (List.mem_cons_of_mem _ hb)) (by simp; omega)]
      simp
  exact (key xs [] (fun _ h => h) (by simpa using hl)).trans (by simp)
theorem lc_if {f : α → D} {xs : List α} (p : α → Bool) (g : α → D) {k : List D → Store → Prop} {x : Nat → Store → Prop} {z : Prop} (hs : src.stays S = true) (hl : xs.length ≤ line)
    (h : ∀ a ∈ xs, wpB tg (f a) (wipeD ρ own) fun ρ1 => (evE b c ρ1 S).cps (fun t S' => tcase (truD S' t) (p a = true ∧ S' = S ∧ (evE b elt ρ1 S).cps (fun v S' => v = g a ∧ S' = S) noX False) (p a = false ∧ S' = S) False) noX False) (hk : k ((xs.filter p).map g) S) : (lcS b own elt tg (.some c) ρ src (xs.map f) S).cps k x z := by
  refine cps_eq (v := (xs.filter p).map g) (S := S) ?_ hk
  unfold lcS
  have key : ∀ (ys : List α) (acc : List D), (∀ a ∈ ys, a ∈ xs) → acc.length + ys.length ≤ line → lcL src (evC b tg (.some c) elt own ρ) (ys.map f) acc S = .ok (acc ++ (ys.filter p).map g) S := by
    intro ys
    induction ys with
    | nil => intro acc _ _; simp [lcL, hs]
    | cons a r ih =>
      intro acc hm hl
      simp only [List.length_cons] at hl
      obtain ⟨ρ1, e1, h1⟩ := pat_wp (h a (hm a List.mem_cons_self))
      obtain ⟨t, S1, e2, h2⟩ := cps_ex h1
      simp only [List.map_cons]
      unfold lcL
      rw [if_pos hs]
      have ih' := fun acc h => ih acc (fun b hb => hm b (List.mem_cons_of_mem _ hb)) h
      cases ht : truD S1 t with
      | none => rw [ht] at h2; exact h2.elim
      | some tt =>
        rw [ht] at h2
        cases tt with
        | true =>
          obtain ⟨hp, rfl, h3⟩ := h2
          have e3 := eq_of_cps h3
          have e4 : evC b tg (.some c) elt own ρ (f a) S1 = .ok (some (g a)) S1 := by
            unfold evC
            rw [e1]
            simp only [evO, Res.bind, truO, tru1, e2, ht, e3, if_true]
          rw [e4]
          show (if acc.length < line then lcL src _ (r.map f) (acc ++ [g a]) S1 else .stuck) = _
          rw [if_pos (by omega), ih' (acc ++ [g a]) (by simp; omega)]
          simp [hp]
        | false =>
          obtain ⟨hp, rfl⟩ := h2
          have e4 : evC b tg (.some c) elt own ρ (f a) S1 = .ok none S1 := by
            unfold evC
            rw [e1]
            simp only [evO, Res.bind, truO, tru1, e2, ht, Bool.false_eq_true, if_false]
          rw [e4]
          show lcL src _ (r.map f) acc S1 = _
          rw [ih' acc (by omega)]
          simp [hp]
  exact (key xs [] (fun _ h => h) (by simpa using hl)).trans (by simp)
/-- a comprehension that may change cells -/
theorem lc_wp {f : α → D} {xs : List α} (P : Nat → List D → Store → Prop) {k : List D → Store → Prop} {x : Nat → Store → Prop} {z : Prop} (hs : ∀ i acc S, P i acc S → src.stays S = true) (hl : xs.length ≤ line) (h0 : P 0 [] S)
    (h : ∀ i a acc S, xs[i]? = some a → acc.length = i → P i acc S → wpB tg (f a) (wipeD ρ own) fun ρ1 => (evE b elt ρ1 S).cps (fun v S' => P (i + 1) (acc ++ [v]) S') noX False) (hk : ∀ ds S', ds.length = xs.length → P xs.length ds S' → k ds S') : (lcS b own elt tg .none ρ src (xs.map f) S).cps k x z := by
  obtain ⟨ds, S', e, hd, hp⟩ := lc_inv (b := b) (own := own) (elt := elt) (tg := tg) (c := .none) (ρ := ρ) (src := src) (items := xs.map f) (P := fun i acc S => acc.length = i ∧ P i acc S) (by simpa using hl) (fun i acc S hp => hs i acc S hp.2) (fun i acc S hp => Nat.le_of_eq hp.1)
    (fun i d acc S hi hp => by
      rw [List.getElem?_map] at hi
      cases hx : xs[i]? with
      | none => rw [hx] at hi; cases hi
      | some a =>
        rw [hx] at hi
        cases hi
        obtain ⟨ρ1, e1, h1⟩ := pat_wp (h i a acc S hx hp.1 hp.2)
        obtain ⟨v, S1, e2, h2⟩ := cps_ex h1
        exact ⟨some v, S1, evC_map e1 e2, by simp [hp.1], h2⟩) ⟨rfl, h0⟩
  rw [List.length_map] at hd hp
  exact cps_eq e (hk ds S' hd hp)
end
section
variable {b : Nat} {own : List Nat} {elt : ME} {tg : Pat} {c : ME} {ρ : Env} {src : Src} {S : Store}
/-! things as they are -/
theorem lcD_map {items : List D} (g : D → D) {k : List D → Store → Prop} {x : Nat → Store → Prop} {z : Prop} (hs : src.stays S = true) (hl : items.length ≤ line)
    (h : ∀ a ∈ items, wpB tg a (wipeD ρ own) fun ρ1 => (evE b elt ρ1 S).cps (fun v S' => v = g a ∧ S' = S) noX False) (hk : k (items.map g) S) : (lcS b own elt tg .none ρ src items S).cps k x z := by
  have := lc_map (f := id) (xs := items) g hs hl h hk (z := z) (x := x)
  rwa [List.map_id] at this
theorem lcD_if {items : List D} (p : D → Bool) (g : D → D) {k : List D → Store → Prop} {x : Nat → Store → Prop} {z : Prop} (hs : src.stays S = true) (hl : items.length ≤ line)
    (h : ∀ a ∈ items, wpB tg a (wipeD ρ own) fun ρ1 => (evE b c ρ1 S).cps (fun t S' => tcase (truD S' t) (p a = true ∧ S' = S ∧ (evE b elt ρ1 S).cps (fun v S' => v = g a ∧ S' = S) noX False) (p a = false ∧ S' = S) False) noX False) (hk : k ((items.filter p).map g) S) : (lcS b own elt tg (.some c) ρ src items S).cps k x z := by
  have := lc_if (f := id) (xs := items) p g hs hl h hk (z := z) (x := x)
  rwa [List.map_id] at this
theorem lcD_wp {items : List D} (P : Nat → List D → Store → Prop) {k : List D → Store → Prop} {x : Nat → Store → Prop} {z : Prop} (hs : ∀ i acc S, P i acc S → src.stays S = true) (hl : items.length ≤ line) (h0 : P 0 [] S)
    (h : ∀ i a acc S, items[i]? = some a → acc.length = i → P i acc S → wpB tg a (wipeD ρ own) fun ρ1 => (evE b elt ρ1 S).cps (fun v S' => P (i + 1) (acc ++ [v]) S') noX False) (hk : ∀ ds S', ds.length = items.length → P items.length ds S' → k ds S') : (lcS b own elt tg .none ρ src items S).cps k x z := by
  have := lc_wp (f := id) (xs := items) P hs hl h0 h hk (z := z) (x := x)
  rwa [List.map_id] at this
end

/-! ### loops -/
section
variable {α : Type} {b : Nat} {p : Pat} {body : MSs} {ρ : Env} {src : Src} {S : Store} {N : Env → Store → Prop} {R : D → Store → Prop} {X : Nat → Store → Prop}
theorem for_wp {f : α → D} {xs : List α} (P : List α → Env → Store → Prop) (hs : ∀ l ρ S, P l ρ S → src.stays S = true) (h0 : P [] ρ S)
    (h : ∀ pre a post, xs = pre ++ a :: post → ∀ ρ S, P pre ρ S → wpB p (f a) ρ fun ρ1 => (evSs b body ρ1 S).wp (P (pre ++ [a])) R X) (hd : ∀ ρ S, P xs ρ S → N ρ S) : (forS b p body src (xs.map f) ρ S).wp N R X := by
  have key : ∀ (post pre : List α) ρ S, xs = pre ++ post → P pre ρ S → (forL src (forF b p body) (post.map f) ρ S).wp N R X := by
    intro post
    induction post with
    | nil =>
      intro pre ρ S e hp
      rw [List.append_nil] at e
      subst e
      rw [List.map_nil, forL, if_pos (hs _ _ _ hp), wp_nx]
      exact hd _ _ hp
    | cons a r ih =>
      intro pre ρ S e hp
      rw [List.map_cons, forL, if_pos (hs _ _ _ hp), wp_seq]
      obtain ⟨ρ1, e1, h1⟩ := pat_wp (h pre a r e ρ S hp)
      unfold forF
      rw [e1]
      exact wp_then h1 (fun ρ2 S2 h2 => ih (pre ++ [a]) ρ2 S2 (by simp [e]) h2) (fun _ _ h => h) (fun _ _ h => h)
  exact key xs [] ρ S rfl h0
theorem forD_wp {items : List D} (P : List D → Env → Store → Prop) (hs : ∀ l ρ S, P l ρ S → src.stays S = true) (h0 : P [] ρ S)
    (h : ∀ pre a post, items = pre ++ a :: post → ∀ ρ S, P pre ρ S → wpB p a ρ fun ρ1 => (evSs b body ρ1 S).wp (P (pre ++ [a])) R X) (hd : ∀ ρ S, P items ρ S → N ρ S) : (forS b p body src items ρ S).wp N R X := by
  have := for_wp (f := id) (xs := items) P hs h0 h hd (p := p) (b := b) (body := body) (src := src)
  rwa [List.map_id] at this
theorem while_wp {c : ME} (P : Nat → Env → Store → Prop) (fu : Nat) {n : Nat} (hf : n < fu) (h0 : P n ρ S)
    (h : ∀ i ρ S, P i ρ S → (evE b c ρ S).cps (fun d S1 => tcase (truD S1 d) ((evSs b body ρ S1).wp (fun ρ2 S2 => ∃ j, j < i ∧ P j ρ2 S2) R X) (N ρ S1) False) X False) : (whileS b c body fu ρ S).wp N R X := by
  have key : ∀ (fu n : Nat) ρ S, n < fu → P n ρ S → (whileS b c body fu ρ S).wp N R X := by
    intro fu
    induction fu with
    | zero => intro n ρ S h; omega
    | succ k ih =>
      intro n ρ S hn hp
      have h1 := h n ρ S hp
      unfold whileS
      rw [whileL]
      cases e : evE b c ρ S with
      | stuck => rw [e, cps_stuck] at h1; exact h1.elim
      | exc c S1 => rw [e, cps_exc] at h1; simp only [Res.st]; rw [wp_exc]; exact h1
      | ok d S1 =>
        rw [e, cps_ok] at h1
        simp only [Res.st]
        cases ht : truD S1 d with
        | none => rw [ht] at h1; exact h1.elim
        | some t =>
          rw [ht] at h1
          cases t with
          | false => simp only; rw [wp_nx]; exact h1
          | true =>
            simp only [tcase] at h1
            rw [wp_seq]
            exact wp_then h1 (fun ρ2 S2 ⟨j, hj, h2⟩ => ih j ρ2 S2 (by omega) h2) (fun _ _ h => h) (fun _ _ h => h)
  exact key fu n ρ S hf h0
end
/-! ### things that are walked through -/
def rngN' (n : Nat) : List D := (List.range n).map fun i => D.int (i : Nat)
theorem rng1_c {β : Type} {n : Nat} (h : n ≤ 1000000) {S : Store} {k : List D × Src → Store → β} {x : Nat → Store → β} {z : β} : (rng1D (.int (n : Nat)) S).cps k x z = k ((List.range n).map fun i => D.int (i : Nat), []) S := by
  unfold rng1D lim
  simp only
  rw [if_pos (by omega), cps_ok]
  congr 2
  unfold rngD
  simp
theorem enumD_map {α : Type} {f : α → D} : ∀ {xs : List α} {n : Nat}, enumD n (xs.map f) = (xs.zipIdx n).map fun p => D.tup [.int (p.2 : Nat), f p.1]
  | [], _ => rfl
  | a :: r, n => by
    simp only [List.map_cons, enumD, List.zipIdx_cons, enumD_map]
@[simp ↓] theorem enum_c {α β : Type} {f : α → D} {xs : List α} {S : Store} {k : List D × Src → Store → β} {x : Nat → Store → β} {z : β} : (enumSD (.tup (xs.map f)) S).cps k x z = k (xs.zipIdx.map fun p => D.tup [.int (p.2 : Nat), f p.1], []) S := by
  rw [← enumD_map]
  exact cps_of (show enumSD (.tup (xs.map f)) S = .ok (enumD 0 (xs.map f), []) S from rfl)
@[simp ↓] theorem enumL_c {α β : Type} {f : α → D} {xs : List α} {S : Store} {k : List D × Src → Store → β} {x : Nat → Store → β} {z : β} : (enumSD (.lst (xs.map f)) S).cps k x z = k (xs.zipIdx.map fun p => D.tup [.int (p.2 : Nat), f p.1], []) S := by
  rw [← enumD_map]
  exact cps_of (show enumSD (.lst (xs.map f)) S = .ok (enumD 0 (xs.map f), []) S from rfl)
theorem zipD_map {α γ : Type} {f : α → D} {g : γ → D} : ∀ {xs : List α} {ys : List γ}, zipD (xs.map f) (ys.map g) = (xs.zip ys).map fun p => D.tup [f p.1, g p.2]
  | [], _ => by simp [zipD]
  | _ :: _, [] => by simp [zipD]
  | a :: r, b :: s => by simp only [List.map_cons, zipD, List.zip_cons_cons, zipD_map]
/-- a tuple or a list -/
def SqD (d : D) (ds : List D) : Prop := d = .tup ds ∨ d = .lst ds
theorem zip_c {α γ β : Type} {f : α → D} {g : γ → D} {xs : List α} {ys : List γ} {u v : D} (hu : SqD u (xs.map f)) (hv : SqD v (ys.map g)) {S : Store} {k : List D × Src → Store → β} {x : Nat → Store → β} {z : β} : (zipSD u v S).cps k x z = k ((xs.zip ys).map fun p => D.tup [f p.1, g p.2], []) S := by
  rw [← zipD_map]
  refine cps_of ?_
  rcases hu with rfl | rfl <;> rcases hv with rfl | rfl <;> rfl
theorem itr_c {β : Type} {u : D} {ds : List D} (hu : SqD u ds) {S : Store} {k : List D × Src → Store → β} {x : Nat → Store → β} {z : β} : (iterD u S).cps k x z = k (ds, []) S := by
  refine cps_of ?_
  rcases hu with rfl | rfl <;> rfl
theorem len_c {m : Bool} {β : Type} {u : D} {ds : List D} (hu : SqD u ds) {S : Store} {k : D → Store → β} {x : Nat → Store → β} {z : β} : (biD m .len [u] S).cps k x z = k (.int ds.length) S := by
  refine cps_of ?_
  rcases hu with rfl | rfl <;> rfl
theorem ix_c {β : Type} {u : D} {ds : List D} (hu : SqD u ds) {i : Int} {S : Store} {k : D → Store → β} {x : Nat → Store → β} {z : β} : (ixS u (.int i) S).cps k x z = (ofO (atD ds i) S).cps k x z := by
  rcases hu with rfl | rfl <;> rfl
theorem ofO_c {β : Type} {a : D} {o : Option D} (h : o = some a) {S : Store} {k : D → Store → β} {x : Nat → Store → β} {z : β} : (ofO o S).cps k x z = k a S := by rw [h]; exact cps_of rfl
theorem newL_c {β : Type} {ds : List D} (h : ds.length ≤ line) {S : Store} {k : D → Store → β} {x : Nat → Store → β} {z : β} : (newL false ds S).cps k x z = k (.lst ds) S := by rw [newL_ok h, cps_ok]
theorem newT_c {β : Type} {ds : List D} (h : ds.length ≤ line) {S : Store} {k : D → Store → β} {x : Nat → Store → β} {z : β} : (newT ds S).cps k x z = k (.tup ds) S := by rw [newT_ok h, cps_ok]
theorem newL_r {β : Type} {ds : List D} (h : ds.length ≤ line) {S : Store} {k : D → Store → β} {x : Nat → Store → β} {z : β} : (newL true ds S).cps k x z = k (.ref S.length) (S ++ [.lst ds]) := by rw [newL_cell h, cps_ok]
@[simp ↓] theorem tuple_c {β : Type} {m : Bool} {ds : List D} {S : Store} {k : D → Store → β} {x : Nat → Store → β} {z : β} : (biD m .tuple [.lst ds] S).cps k x z = k (.tup ds) S := cps_of rfl
@[simp ↓] theorem tupleT_c {β : Type} {m : Bool} {ds : List D} {S : Store} {k : D → Store → β} {x : Nat → Store → β} {z : β} : (biD m .tuple [.tup ds] S).cps k x z = k (.tup ds) S := cps_of rfl
theorem all_c {α β : Type} {m : Bool} {xs : List α} {p : α → Bool} {S : Store} {k : D → Store → β} {x : Nat → Store → β} {z : β} : (biD m .all [.lst (xs.map fun a => D.bl (p a))] S).cps k x z = k (.bl (xs.all p)) S := by
  have : blsOf (xs.map fun a => D.bl (p a)) = some (xs.map p) := by
    induction xs with
    | nil => rfl
    | cons a r ih => simp only [List.map_cons, blsOf, ih]; rfl
  show (match (lstOf S (.lst (xs.map fun a => D.bl (p a)))).bind blsOf with | some bs => Res.ok (D.bl (bs.all id)) S | none => .stuck).cps k x z = _
  rw [show (lstOf S (.lst (xs.map fun a => D.bl (p a)))).bind blsOf = some (xs.map p) from this]
  simp only [cps_ok]
  rw [List.all_map]; rfl
theorem any_c {α β : Type} {m : Bool} {xs : List α} {p : α → Bool} {S : Store} {k : D → Store → β} {x : Nat → Store → β} {z : β} : (biD m .any [.lst (xs.map fun a => D.bl (p a))] S).cps k x z = k (.bl (xs.any p)) S := by
  have : blsOf (xs.map fun a => D.bl (p a)) = some (xs.map p) := by
    induction xs with
    | nil => rfl
    | cons a r ih => simp only [List.map_cons, blsOf, ih]; rfl
  show (match (lstOf S (.lst (xs.map fun a => D.bl (p a)))).bind blsOf with | some bs => Res.ok (D.bl (bs.any id)) S | none => .stuck).cps k x z = _
  rw [show (lstOf S (.lst (xs.map fun a => D.bl (p a)))).bind blsOf = some (xs.map p) from this]
  simp only [cps_ok]
  rw [List.any_map]; rfl
end Mn

namespace Mn
def MSs.tl : MSs → MSs
  | .cons _ r => r
  | .nil => .nil
theorem intsOf_map : ∀ ns : List Int, intsOf (ns.map D.int) = some ns
  | [] => rfl
  | n :: ns => by
    show (intsOf (ns.map D.int)).map _ = _
    rw [intsOf_map ns]; rfl
theorem max_ints {m : Bool} {S : Store} {i : Int} {ns : List Int} : biD m .max [.lst (.int i :: ns.map D.int)] S = .ok (.int (maxI i ns)) S := by
  show (match (seqOf S (.lst (.int i :: ns.map D.int))).bind fun p => intsOf p.2 with
    | some (i :: r) => Res.ok (D.int (maxI i r)) S
    | _ => .stuck) = _
  have : (seqOf S (.lst (.int i :: ns.map D.int))).bind (fun p => intsOf p.2) = some (i :: ns) := intsOf_map (i :: ns)
  rw [this]
def absI (d : D) : D := match d with | .int i => .int i.natAbs | d => d
/-- the drawer's list: whatever is left of the greatest number, then a mark for each draw -/
def StOk (st : List D) : Prop := st = [] ∨ ∃ (big : Int) (rest : List D), st = .int big :: rest
end Mn
namespace Lb
open PySem Mn
theorem draw_tail {b n : Nat} {S : Store} {xs : List D} {many big : Int} {rest : List D} (hx : ∀ d ∈ xs, ∃ i, d = D.int i) (hS : S[n]? = some (.lst (.int big :: rest))) (hl : rest.length + 2 ≤ line) (hm : 0 < many) :
    ∃ r big', 0 ≤ r ∧ r < many ∧ evSs b (b__law_draw).tl [some (.scr xs), some (.ref n), some (.int many), none, none, none, none, none] S = .rt (.int r) (S.set n (.lst (.int big' :: rest ++ [.int 0]))) := by
  have hn : n < S.length := (List.getElem?_eq_some_iff.mp hS).1
  have e1 := app_at (b := b) (m := false) (d := .int 0) hS (by simp; omega) (fun _ => rfl)
  have g1 : (S.set n (.lst (.int big :: rest ++ [.int 0])))[n]? = some (.lst (.int big :: rest ++ [.int 0])) := List.getElem?_set_self hn
  have e2 := len_ref (m := false) g1
  have e3 : ixS (.ref n) (.int 0) (S.set n (.lst (.int big :: rest ++ [.int 0]))) = .ok (.int big) (S.set n (.lst (.int big :: rest ++ [.int 0]))) := (ix_ref (k := 0) g1).trans (by rw [show atD (.int big :: rest ++ [.int 0]) 0 = some (.int big) from at_0]; rfl)
  have e5 := fun {v} {ρ} => sub_ref (b := b) (k := 0) (v := .int v) (ρ := ρ) g1 (j := 0) (ixD_nat (k := 0) (by simp)) (fun _ => rfl)
  have hk : Sm (((D.int big :: rest ++ [D.int 0]).length : Nat) : Int) := sm_of (n := line) (by simp; omega) (by decide)
  have m1 : ∀ i : Int, Sm (i % 65536) := fun i => sm_mod (by decide) (by decide)
  have m2 : ∀ i : Int, Sm (i % 4294967291) := fun i => sm_mod (by decide) (by decide)
  have m3 : ∀ i : Int, Sm (i % 4294967279) := fun i => sm_mod (by decide) (by decide)
  have m4 : ∀ i : Int, Sm (i % 4294967291 / 64) := fun i => sm_div (Int.emod_nonneg _ (by decide)) (by decide) (m2 i)
  have l1 : Sm 40503 := by unfold Sm; decide
  have l2 : Sm 104729 := by unfold Sm; decide
  have l3 : Sm 48271 := by unfold Sm; decide
  have l4 : Sm 69621 := by unfold Sm; decide
  have l5 : Sm 64 := by unfold Sm; decide
  have l6 : Sm 67108864 := by unfold Sm; decide
  have l7 : Sm 65536 := by unfold Sm; decide
  have p1 : (0 : Int) < 65536 := by decide
  have p2 : (0 : Int) < 4294967291 := by decide
  have p3 : (0 : Int) < 4294967279 := by decide
  have p4 : (0 : Int) < 64 := by decide
  cases he : xs.isEmpty with
  | true =>
    unfold b__law_draw
    simp only [↓tcaseB_bl, ↓cps_ok, ↓cps_exc, ↓cps_stuck, ↓bind_is, ↓st_is, ↓only_is, ↓cps_cps, ↓bind_cps, ↓tcase_some, ↓seq_nx, ↓seq_rt, ↓seq_exc, ↓seq_stuck, ↓seq_ite, ↓cps_ite, ↓rdV_some, ↓ev_var, ↓ev_frz, ↓ev_cst, ↓ev_tup, ↓ev_lst, ↓ev_bin, ↓ev_neg, ↓ev_not, ↓ev_cmp, ↓ev_chain, ↓ev_ite, ↓ev_and, ↓ev_or, ↓ev_a1, ↓ev_r1, ↓ev_a2, ↓ev_r2, ↓ev_ix, ↓ev_sl, ↓ev_rev, ↓ev_call, ↓ev_bi, ↓ev_isi, ↓ev_bm, ↓ev_lc, ↓ev_nil, ↓ev_cons, ↓ev_o0, ↓ev_o1, ↓ev_iexp, ↓ev_irng1, ↓ev_irng2, ↓ev_ienum, ↓ev_izip, ↓putS_some, ↓ev_snil, ↓ev_scons, ↓ev_asg, ↓ev_put, ↓ev_asgT, ↓ev_par, ↓ev_expr, ↓ev_ret, ↓ev_if, ↓seq_seq, ↓ev_for, ↓ev_while, ↓ev_rais, ↓ev_try, ↓stV_zero, ↓stV_succ, ↓tcase_bl, ↓tcase_int, ↓tcase_non, ↓tcase_tup, ↓tcase_lst, ↓tcase_scr, ↓bin_add_c, ↓bin_sub_c, ↓neg_int_c, ↓cmp_lt_c, ↓cmp_le_c, ↓cmp_gt_c, ↓cmp_ge_c, ↓cmp_eqi_c, ↓cmp_nei_c, ↓itr_tup_c, ↓itr_lst_c, ↓itr_scr_c, ↓len_seq_c, ↓len_lst_c, ↓len_scr_c, ↓bi_abs_c, ↓ofO_some_c, ↓newT_0_c, ↓newL_0_c, ↓newT_1_c, ↓newL_1_c, ↓newT_2_c, ↓newL_2_c, ↓newT_3_c, ↓newL_3_c, ↓newT_4_c, ↓newL_4_c, ↓newT_5_c, ↓newL_5_c, ↓newT_6_c, ↓newL_6_c, ↓newT_7_c, ↓newL_7_c, ↓newT_8_c, ↓newL_8_c, ↓newT_9_c, ↓newL_9_c, ↓isi_non_int_c, ↓isi_non_bool_c, ↓isi_non_str_c, ↓isi_non_tuple_c, ↓isi_non_list_c, ↓isi_bl_int_c, ↓isi_bl_bool_c, ↓isi_bl_str_c, ↓isi_bl_tuple_c, ↓isi_bl_list_c, ↓isi_int_int_c, ↓isi_int_bool_c, ↓isi_int_str_c, ↓isi_int_tuple_c, ↓isi_int_list_c, ↓isi_str_int_c, ↓isi_str_bool_c, ↓isi_str_str_c, ↓isi_str_tuple_c, ↓isi_str_list_c, ↓isi_tup_int_c, ↓isi_tup_bool_c, ↓isi_tup_str_c, ↓isi_tup_tuple_c, ↓isi_tup_list_c, ↓isi_lst_int_c, ↓isi_lst_bool_c, ↓isi_lst_str_c, ↓isi_lst_tuple_c, ↓isi_lst_list_c, ↓ix_t0_c, ↓ix_t1_c, ↓ix_l0_c, ↓ix_l1_c, truD_bl, truD_int, truD_non, truD_tup, truD_lst, truD_scr, tru1_bl, tru1_int, sq_tup, sq_lst, sq_scr, lst_lst, List.getElem?_cons_zero, List.getElem?_cons_succ, ↓reduceIte, MSs.tl, ↓cps_of e1, lst_ref hS, ↓cps_of e2, Option.isSome_some, if_true, ↓cps_of e3, he, Bool.not_true, Bool.false_eq_true, if_false, ↓cps_of (bin_mod p1), ↓cps_of (bin_div' p1 l7), ↓nx_of e5, ↓cps_of (bin_mul' l1 (m1 _)), ↓cps_of (bin_mul' l2 hk), ↓cps_of (bin_mod p2), ↓cps_of (bin_mod p3), ↓cps_of (bin_mul' (m2 _) (m2 _)), ↓cps_of (bin_mul' (m3 _) l3), ↓cps_of (bin_mul' (m3 _) l4), ↓cps_of (bin_div' p4 l5), ↓cps_of (bin_mul' (m4 _) l6), ↓cps_of (bin_mod hm)]
    exact ⟨_, _, Int.emod_nonneg _ (Int.ne_of_gt hm), Int.emod_lt_of_pos _ hm, by rw [List.set_set]; rfl⟩
  | false =>
    have hne : 0 < xs.length := by cases xs <;> simp at he ⊢
    have p5 : (0 : Int) < (xs.length : Int) := by omega
    obtain ⟨c, e6⟩ : ∃ c, atD xs ((((D.int big :: rest ++ [D.int 0]).length : Nat) : Int) % (xs.length : Int)) = some (.int c) := by
      have hlt := Nat.mod_lt (D.int big :: rest ++ [D.int 0]).length hne
      rw [show ((((D.int big :: rest ++ [D.int 0]).length : Nat) : Int) % (xs.length : Int)) = (((D.int big :: rest ++ [D.int 0]).length % xs.length : Nat) : Int) by simp, atD_nat, List.getElem?_eq_getElem hlt]
      obtain ⟨i, hi⟩ := hx _ (List.getElem_mem hlt)
      exact ⟨i, by rw [hi]⟩
    have ix6 : ∀ {S : Store}, ixS (.scr xs) (.int ((((D.int big :: rest ++ [D.int 0]).length : Nat) : Int) % (xs.length : Int))) S = .ok (.int c) S := fun {S} => by rw [ix_scr, e6]; rfl
    unfold b__law_draw
    simp only [↓tcaseB_bl, ↓cps_ok, ↓cps_exc, ↓cps_stuck, ↓bind_is, ↓st_is, ↓only_is, ↓cps_cps, ↓bind_cps, ↓tcase_some, ↓seq_nx, ↓seq_rt, ↓seq_exc, ↓seq_stuck, ↓seq_ite, ↓cps_ite, ↓rdV_some, ↓ev_var, ↓ev_frz, ↓ev_cst, ↓ev_tup, ↓ev_lst, ↓ev_bin, ↓ev_neg, ↓ev_not, ↓ev_cmp, ↓ev_chain, ↓ev_ite, ↓ev_and, ↓ev_or, ↓ev_a1, ↓ev_r1, ↓ev_a2, ↓ev_r2, ↓ev_ix, ↓ev_sl, ↓ev_rev, ↓ev_call, ↓ev_bi, ↓ev_isi, ↓ev_bm, ↓ev_lc, ↓ev_nil, ↓ev_cons, ↓ev_o0, ↓ev_o1, ↓ev_iexp, ↓ev_irng1, ↓ev_irng2, ↓ev_ienum, ↓ev_izip, ↓putS_some, ↓ev_snil, ↓ev_scons, ↓ev_asg, ↓ev_put, ↓ev_asgT, ↓ev_par, ↓ev_expr, ↓ev_ret, ↓ev_if, ↓seq_seq, ↓ev_for, ↓ev_while, ↓ev_rais, ↓ev_try, ↓stV_zero, ↓stV_succ, ↓tcase_bl, ↓tcase_int, ↓tcase_non, ↓tcase_tup, ↓tcase_lst, ↓tcase_scr, ↓bin_add_c, ↓bin_sub_c, ↓neg_int_c, ↓cmp_lt_c, ↓cmp_le_c, ↓cmp_gt_c, ↓cmp_ge_c, ↓cmp_eqi_c, ↓cmp_nei_c, ↓itr_tup_c, ↓itr_lst_c, ↓itr_scr_c, ↓len_seq_c, ↓len_lst_c, ↓len_scr_c, ↓bi_abs_c, ↓ofO_some_c, ↓newT_0_c, ↓newL_0_c, ↓newT_1_c, ↓newL_1_c, ↓newT_2_c, ↓newL_2_c, ↓newT_3_c, ↓newL_3_c, ↓newT_4_c, ↓newL_4_c, ↓newT_5_c, ↓newL_5_c, ↓newT_6_c, ↓newL_6_c, ↓newT_7_c, ↓newL_7_c, ↓newT_8_c, ↓newL_8_c, ↓newT_9_c, ↓newL_9_c, ↓isi_non_int_c, ↓isi_non_bool_c, ↓isi_non_str_c, ↓isi_non_tuple_c, ↓isi_non_list_c, ↓isi_bl_int_c, ↓isi_bl_bool_c, ↓isi_bl_str_c, ↓isi_bl_tuple_c, ↓isi_bl_list_c, ↓isi_int_int_c, ↓isi_int_bool_c, ↓isi_int_str_c, ↓isi_int_tuple_c, ↓isi_int_list_c, ↓isi_str_int_c, ↓isi_str_bool_c, ↓isi_str_str_c, ↓isi_str_tuple_c, ↓isi_str_list_c, ↓isi_tup_int_c, ↓isi_tup_bool_c, ↓isi_tup_str_c, ↓isi_tup_tuple_c, ↓isi_tup_list_c, ↓isi_lst_int_c, ↓isi_lst_bool_c, ↓isi_lst_str_c, ↓isi_lst_tuple_c, ↓isi_lst_list_c, ↓ix_t0_c, ↓ix_t1_c, ↓ix_l0_c, ↓ix_l1_c, truD_bl, truD_int, truD_non, truD_tup, truD_lst, truD_scr, tru1_bl, tru1_int, sq_tup, sq_lst, sq_scr, lst_lst, List.getElem?_cons_zero, List.getElem?_cons_succ, ↓reduceIte, MSs.tl, ↓cps_of e1, lst_ref hS, ↓cps_of e2, Option.isSome_some, if_true, ↓cps_of e3, he, Bool.not_false, ↓cps_of (bin_mod p5), ↓cps_of ix6, ↓cps_of (bin_mod p1), ↓cps_of (bin_div' p1 l7), ↓nx_of e5, ↓cps_of (bin_mul' l1 (m1 _)), ↓cps_of (bin_mul' l2 hk), ↓cps_of (bin_mod p2), ↓cps_of (bin_mod p3), ↓cps_of (bin_mul' (m2 _) (m2 _)), ↓cps_of (bin_mul' (m3 _) l3), ↓cps_of (bin_mul' (m3 _) l4), ↓cps_of (bin_div' p4 l5), ↓cps_of (bin_mul' (m4 _) l6), ↓cps_of (bin_mod hm)]
    exact ⟨_, _, Int.emod_nonneg _ (Int.ne_of_gt hm), Int.emod_lt_of_pos _ hm, by rw [List.set_set]; rfl⟩
theorem draw {b n : Nat} {S : Store} {ns : List Int} {many : Int} {st : List D} (hns : ns.length ≤ 63) (hS : S[n]? = some (.lst st)) (hk : StOk st) (hl : st.length + 3 ≤ line) (hm : 0 < many) :
    ∃ r st', 0 ≤ r ∧ r < many ∧ StOk st' ∧ st'.length ≤ st.length + 2 ∧ d__law_draw b [scriptD ns, .ref n, .int many] S = .ok (.int r) (S.set n (.lst st')) := by
  have hn : n < S.length := (List.getElem?_eq_some_iff.mp hS).1
  have hx : ∀ d ∈ ns.map D.int, ∃ i, d = D.int i := fun d hd => by
    obtain ⟨i, _, e⟩ := List.mem_map.mp hd
    exact ⟨i, e.symm⟩
  have hlen : (S.set n (.lst st)).length = S.length := by simp
  unfold d__law_draw
  unfold scriptD
  have fin : ∀ {r : Int} {big : Int} {rest : List D}, rest.length ≤ st.length → 0 ≤ r → r < many → evSs S.length b__law_draw ([D.scr (ns.map D.int), .ref n, .int many].map some ++ List.replicate (8 - 3) none) S = .rt (.int r) (S.set n (.lst (.int big :: rest ++ [.int 0]))) →
      ∃ r st', 0 ≤ r ∧ r < many ∧ StOk st' ∧ st'.length ≤ st.length + 2 ∧ run false 3 8 b__law_draw b [D.scr (ns.map D.int), .ref n, .int many] S = .ok (.int r) (S.set n (.lst st')) := fun {r big rest} h0 h1 h2 h3 =>
    ⟨r, .int big :: rest ++ [.int 0], h1, h2, .inr ⟨_, _, rfl⟩, by simp; omega, (run_rt h3 rfl rfl).trans (by rw [List.take_of_length_le (by simp)])⟩
  rcases hk with rfl | ⟨big, rest, rfl⟩
  · -- the first draw: the greatest number is put down
    have hlc : lcS S.length [4] (.bi false .abs (.cons (.var 4) .nil)) (.one 4) .none [some (.scr (ns.map D.int)), some (.ref n), some (.int many), none, none, none, none, none] [] (ns.map D.int) S = .ok ((ns.map D.int).map absI) S := by
      refine lcS_map _ rfl (fun d hd => ?_) (by simp; exact Nat.le_trans hns (by decide))
      obtain ⟨i, rfl⟩ := hx d hd
      refine ⟨_, rfl, ?_⟩
      show (Res.ok (D.int (if i < 0 then -i else i)) S) = _
      congr 2
      split <;> omega
    have hmx : ∃ g, biD false .max [.lst ((ns.map D.int).map absI ++ [D.int 0])] S = .ok (.int g) S := by
      cases ns with
      | nil => exact ⟨_, max_ints (ns := [])⟩
      | cons i r =>
        have e : ((((i :: r).map D.int).map absI ++ [D.int 0]) : List D) = .int (i.natAbs : Int) :: ((r.map fun i : Int => ((i.natAbs : Nat) : Int)) ++ [0]).map D.int := by
          simp only [List.map_cons, List.map_map, List.map_append, List.map_nil, List.cons_append]
          rfl
        rw [e]
        exact ⟨_, max_ints⟩
    obtain ⟨g, hmx⟩ := hmx
    have e1 := app_at (b := S.length) (m := false) (d := .int g) hS (by decide) (fun _ => rfl)
    have g1 : (S.set n (.lst ([] ++ [.int g])))[n]? = some (.lst [.int g]) := List.getElem?_set_self hn
    obtain ⟨r, big', h1, h2, h3⟩ := draw_tail (b := S.length) (many := many) hx g1 (by decide) hm
    refine fin (big := big') (rest := []) (Nat.le_refl _) h1 h2 ?_
    rw [List.set_set] at h3
    rw [← h3]
    show evSs S.length (.cons (.ifs (.not_ (.var 1)) (.cons (.expr (.bm false .append (.var 1) (.cons (.bi false .max (.cons (.bin false .add (.lc false [4] (.bi false .abs (.cons (.var 4) .nil)) (.one 4) (.exp (.var 0)) .none) (.lst false (.cons (.cst (.int 0)) .nil))) .nil)) .nil)))
      .nil) .nil) (b__law_draw).tl) [some (.scr (ns.map D.int)), some (.ref n), some (.int many), none, none, none, none, none] S = _
    simp only [↓tcaseB_bl, ↓cps_ok, ↓cps_exc, ↓cps_stuck, ↓bind_is, ↓st_is, ↓only_is, ↓cps_cps, ↓bind_cps, ↓tcase_some, ↓seq_nx, ↓seq_rt, ↓seq_exc, ↓seq_stuck, ↓seq_ite, ↓cps_ite, ↓rdV_some, ↓ev_var, ↓ev_frz, ↓ev_cst, ↓ev_tup, ↓ev_lst, ↓ev_bin, ↓ev_neg, ↓ev_not, ↓ev_cmp, ↓ev_chain, ↓ev_ite, ↓ev_and, ↓ev_or, ↓ev_a1, ↓ev_r1, ↓ev_a2, ↓ev_r2, ↓ev_ix, ↓ev_sl, ↓ev_rev, ↓ev_call, ↓ev_bi, ↓ev_isi, ↓ev_bm, ↓ev_lc, ↓ev_nil, ↓ev_cons, ↓ev_o0, ↓ev_o1, ↓ev_iexp, ↓ev_irng1, ↓ev_irng2, ↓ev_ienum, ↓ev_izip, ↓putS_some, ↓ev_snil, ↓ev_scons, ↓ev_asg, ↓ev_put, ↓ev_asgT, ↓ev_par, ↓ev_expr, ↓ev_ret, ↓ev_if, ↓seq_seq, ↓ev_for, ↓ev_while, ↓ev_rais, ↓ev_try, ↓stV_zero, ↓stV_succ, ↓tcase_bl, ↓tcase_int, ↓tcase_non, ↓tcase_tup, ↓tcase_lst, ↓tcase_scr, ↓bin_add_c, ↓bin_sub_c, ↓neg_int_c, ↓cmp_lt_c, ↓cmp_le_c, ↓cmp_gt_c, ↓cmp_ge_c, ↓cmp_eqi_c, ↓cmp_nei_c, ↓itr_tup_c, ↓itr_lst_c, ↓itr_scr_c, ↓len_seq_c, ↓len_lst_c, ↓len_scr_c, ↓bi_abs_c, ↓ofO_some_c, ↓newT_0_c, ↓newL_0_c, ↓newT_1_c, ↓newL_1_c, ↓newT_2_c, ↓newL_2_c, ↓newT_3_c, ↓newL_3_c, ↓newT_4_c, ↓newL_4_c, ↓newT_5_c, ↓newL_5_c, ↓newT_6_c, ↓newL_6_c, ↓newT_7_c, ↓newL_7_c, ↓newT_8_c, ↓newL_8_c, ↓newT_9_c, ↓newL_9_c, ↓isi_non_int_c, ↓isi_non_bool_c, ↓isi_non_str_c, ↓isi_non_tuple_c, ↓isi_non_list_c, ↓isi_bl_int_c, ↓isi_bl_bool_c, ↓isi_bl_str_c, ↓isi_bl_tuple_c, ↓isi_bl_list_c, ↓isi_int_int_c, ↓isi_int_bool_c, ↓isi_int_str_c, ↓isi_int_tuple_c, ↓isi_int_list_c, ↓isi_str_int_c, ↓isi_str_bool_c, ↓isi_str_str_c, ↓isi_str_tuple_c, ↓isi_str_list_c, ↓isi_tup_int_c, ↓isi_tup_bool_c, ↓isi_tup_str_c, ↓isi_tup_tuple_c, ↓isi_tup_list_c, ↓isi_lst_int_c, ↓isi_lst_bool_c, ↓isi_lst_str_c, ↓isi_lst_tuple_c, ↓isi_lst_list_c, ↓ix_t0_c, ↓ix_t1_c, ↓ix_l0_c, ↓ix_l1_c, truD_bl, truD_int, truD_non, truD_tup, truD_lst, truD_scr, tru1_bl, tru1_int, sq_tup, sq_lst, sq_scr, lst_lst, List.getElem?_cons_zero, List.getElem?_cons_succ, ↓reduceIte, truD_ref hS, List.isEmpty_nil, Bool.not_true, Bool.false_eq_true, if_false, lst_ref hS, Option.isSome_some, if_true, ↓cps_of hlc]
    rw [newL_ok (by simp; exact Nat.le_trans hns (by decide)), cps_ok, bin_addL, newL_ok (by simp; exact Nat.le_trans (Nat.succ_le_succ hns) (by decide)), cps_ok, hmx, cps_ok, e1, cps_ok, seq_nx]
  · obtain ⟨r, big', h1, h2, h3⟩ := draw_tail (b := S.length) (many := many) hx hS (by simp at hl; omega) hm
    refine fin (big := big') (rest := rest) (by simp) h1 h2 ?_
    rw [← h3]
    show evSs S.length (.cons (.ifs (.not_ (.var 1)) (.cons (.expr (.bm false .append (.var 1) (.cons (.bi false .max (.cons (.bin false .add (.lc false [4] (.bi false .abs (.cons (.var 4) .nil)) (.one 4) (.exp (.var 0)) .none) (.lst false (.cons (.cst (.int 0)) .nil))) .nil)) .nil)))
      .nil) .nil) (b__law_draw).tl) [some (.scr (ns.map D.int)), some (.ref n), some (.int many), none, none, none, none, none] S = _
    simp only [↓tcaseB_bl, ↓cps_ok, ↓cps_exc, ↓cps_stuck, ↓bind_is, ↓st_is, ↓only_is, ↓cps_cps, ↓bind_cps, ↓tcase_some, ↓seq_nx, ↓seq_rt, ↓seq_exc, ↓seq_stuck, ↓seq_ite, ↓cps_ite, ↓rdV_some, ↓ev_var, ↓ev_frz, ↓ev_cst, ↓ev_tup, ↓ev_lst, ↓ev_bin, ↓ev_neg, ↓ev_not, ↓ev_cmp, ↓ev_chain, ↓ev_ite, ↓ev_and, ↓ev_or, ↓ev_a1, ↓ev_r1, ↓ev_a2, ↓ev_r2, ↓ev_ix, ↓ev_sl, ↓ev_rev, ↓ev_call, ↓ev_bi, ↓ev_isi, ↓ev_bm, ↓ev_lc, ↓ev_nil, ↓ev_cons, ↓ev_o0, ↓ev_o1, ↓ev_iexp, ↓ev_irng1, ↓ev_irng2, ↓ev_ienum, ↓ev_izip, ↓putS_some, ↓ev_snil, ↓ev_scons, ↓ev_asg, ↓ev_put, ↓ev_asgT, ↓ev_par, ↓ev_expr, ↓ev_ret, ↓ev_if, ↓seq_seq, ↓ev_for, ↓ev_while, ↓ev_rais, ↓ev_try, ↓stV_zero, ↓stV_succ, ↓tcase_bl, ↓tcase_int, ↓tcase_non, ↓tcase_tup, ↓tcase_lst, ↓tcase_scr, ↓bin_add_c, ↓bin_sub_c, ↓neg_int_c, ↓cmp_lt_c, ↓cmp_le_c, ↓cmp_gt_c, ↓cmp_ge_c, ↓cmp_eqi_c, ↓cmp_nei_c, ↓itr_tup_c, ↓itr_lst_c, ↓itr_scr_c, ↓len_seq_c, ↓len_lst_c, ↓len_scr_c, ↓bi_abs_c, ↓ofO_some_c, ↓newT_0_c, ↓newL_0_c, ↓newT_1_c, ↓newL_1_c, ↓newT_2_c, ↓newL_2_c, ↓newT_3_c, ↓newL_3_c, ↓newT_4_c, ↓newL_4_c, ↓newT_5_c, ↓newL_5_c, ↓newT_6_c, ↓newL_6_c, ↓newT_7_c, ↓newL_7_c, ↓newT_8_c, ↓newL_8_c, ↓newT_9_c, ↓newL_9_c, ↓isi_non_int_c, ↓isi_non_bool_c, ↓isi_non_str_c, ↓isi_non_tuple_c, ↓isi_non_list_c, ↓isi_bl_int_c, ↓isi_bl_bool_c, ↓isi_bl_str_c, ↓isi_bl_tuple_c, ↓isi_bl_list_c, ↓isi_int_int_c, ↓isi_int_bool_c, ↓isi_int_str_c, ↓isi_int_tuple_c, ↓isi_int_list_c, ↓isi_str_int_c, ↓isi_str_bool_c, ↓isi_str_str_c, ↓isi_str_tuple_c, ↓isi_str_list_c, ↓isi_tup_int_c, ↓isi_tup_bool_c, ↓isi_tup_str_c, ↓isi_tup_tuple_c, ↓isi_tup_list_c, ↓isi_lst_int_c, ↓isi_lst_bool_c, ↓isi_lst_str_c, ↓isi_lst_tuple_c, ↓isi_lst_list_c, ↓ix_t0_c, ↓ix_t1_c, ↓ix_l0_c, ↓ix_l1_c, truD_bl, truD_int, truD_non, truD_tup, truD_lst, truD_scr, tru1_bl, tru1_int, sq_tup, sq_lst, sq_scr, lst_lst, List.getElem?_cons_zero, List.getElem?_cons_succ, ↓reduceIte, truD_ref hS, List.isEmpty_cons, Bool.not_false, if_true, Bool.false_eq_true, if_false]
/-- the drawer's cell: in order, not long -/
def St (n k : Nat) (S : Store) : Prop := ∃ st, S[n]? = some (.lst st) ∧ StOk st ∧ st.length ≤ k
/-- drawn: only the drawer's cell is another one -/
def Dr (n k : Nat) (S S' : Store) : Prop := (∃ c, S' = S.set n c) ∧ St n k S'
theorem St.lt {n k : Nat} {S : Store} (h : St n k S) : n < S.length := by
  obtain ⟨st, h, _⟩ := h
  exact (List.getElem?_eq_some_iff.mp h).1
theorem St.mono {n k l : Nat} {S : Store} (h : St n k S) (hl : k ≤ l) : St n l S := by
  obtain ⟨st, h, h1, h2⟩ := h
  exact ⟨st, h, h1, by omega⟩
theorem Dr.st {n k : Nat} {S S' : Store} (h : Dr n k S S') : St n k S' := h.2
theorem Dr.len {n k : Nat} {S S' : Store} (h : Dr n k S S') : S'.length = S.length := by
  obtain ⟨⟨c, rfl⟩, _⟩ := h
  simp
theorem Dr.get {n k m : Nat} {S S' : Store} (h : Dr n k S S') (hm : m ≠ n) : S'[m]? = S[m]? := by
  obtain ⟨⟨c, rfl⟩, _⟩ := h
  exact List.getElem?_set_ne (Ne.symm hm)
theorem Dr.trans {n k l : Nat} {S S' S'' : Store} (h : Dr n k S S') (g : Dr n l S' S'') : Dr n l S S'' := by
  obtain ⟨⟨c, rfl⟩, _⟩ := h
  obtain ⟨⟨d, rfl⟩, g⟩ := g
  exact ⟨⟨d, List.set_set ..⟩, g⟩
theorem Dr.mono {n k l : Nat} {S S' : Store} (h : Dr n k S S') (hl : k ≤ l) : Dr n l S S' := ⟨h.1, h.2.mono hl⟩
theorem Dr.refl {n k : Nat} {S : Store} (h : St n k S) : Dr n k S S := by
  obtain ⟨st, h1, h2⟩ := h
  refine ⟨⟨.lst st, ?_⟩, st, h1, h2⟩
  apply List.ext_getElem?
  intro i
  by_cases hi : n = i
  · subst hi
    rw [h1, List.getElem?_set_self (List.getElem?_eq_some_iff.mp h1).1]
  · rw [List.getElem?_set_ne hi]
theorem Dr.take {n k : Nat} {S S' T : Store} (h : Dr n k S (S'.take T.length)) (e : T.length = S.length) : True := trivial
theorem draw_w {b n k m : Nat} {S : Store} {ns : List Int} (hns : ns.length ≤ 63) (h : St n k S) (hk : k ≤ 1000000) (hm : 0 < m) :
    (d__law_draw b [scriptD ns, .ref n, .int (m : Nat)] S).W fun r S' => ∃ i : Nat, r = .int (i : Nat) ∧ i < m ∧ Dr n (k + 2) S S' := by
  obtain ⟨st, h1, h2, h3⟩ := h
  obtain ⟨r, st', r0, r1, k1, l1, e⟩ := draw (b := b) (many := m) hns h1 h2 (Nat.le_trans (show _ ≤ 1000003 by omega) (by decide)) (by omega)
  refine W_of_eq e ⟨r.toNat, by congr 1; omega, by omega, ⟨_, _root_.rfl⟩, st', List.getElem?_set_self (List.getElem?_eq_some_iff.mp h1).1, k1, by omega⟩
end Lb

/-! Plain: fractions are rational numbers. -/
local macro_rules
  | `(tactic| simp_arith only [$args,*]) => `(tactic| simp only [↓Mn.tcaseB_bl, ↓Mn.cps_ok, ↓Mn.cps_exc, ↓Mn.cps_stuck, ↓Mn.bind_is, ↓Mn.st_is, ↓Mn.only_is, ↓Mn.cps_cps, ↓Mn.bind_cps, ↓Mn.tcase_some, ↓Mn.cps_ite, ↓Mn.rdV_some, ↓Mn.ev_var, ↓Mn.ev_frz, ↓Mn.ev_cst, ↓Mn.ev_tup, ↓Mn.ev_lst, ↓Mn.ev_bin, ↓Mn.ev_neg, ↓Mn.ev_not, ↓Mn.ev_cmp, ↓Mn.ev_chain, ↓Mn.ev_ite, ↓Mn.ev_and, ↓Mn.ev_or, ↓Mn.ev_a1, ↓Mn.ev_r1, ↓Mn.ev_a2, ↓Mn.ev_r2, ↓Mn.ev_ix, ↓Mn.ev_sl, ↓Mn.ev_rev, ↓Mn.ev_call, ↓Mn.ev_bi, ↓Mn.ev_isi, ↓Mn.ev_bm, ↓Mn.ev_lc, ↓Mn.ev_nil, ↓Mn.ev_cons, ↓Mn.ev_o0, ↓Mn.ev_o1, ↓Mn.ev_iexp, ↓Mn.ev_irng1, ↓Mn.ev_irng2, ↓Mn.ev_ienum, ↓Mn.ev_izip, ↓Mn.tcase_bl, ↓Mn.tcase_int, ↓Mn.tcase_non, ↓Mn.tcase_tup, ↓Mn.tcase_lst, ↓Mn.tcase_scr, ↓Mn.bin_add_c, ↓Mn.bin_sub_c, ↓Mn.neg_int_c, ↓Mn.cmp_lt_c, ↓Mn.cmp_le_c, ↓Mn.cmp_gt_c, ↓Mn.cmp_ge_c, ↓Mn.cmp_eqi_c, ↓Mn.cmp_nei_c, ↓Mn.itr_tup_c, ↓Mn.itr_lst_c, ↓Mn.itr_scr_c, ↓Mn.len_seq_c, ↓Mn.len_lst_c, ↓Mn.len_scr_c, ↓Mn.bi_abs_c, ↓Mn.ofO_some_c, ↓Mn.newT_0_c, ↓Mn.newL_0_c, ↓Mn.newT_1_c, ↓Mn.newL_1_c, ↓Mn.newT_2_c, ↓Mn.newL_2_c, ↓Mn.newT_3_c, ↓Mn.newL_3_c, ↓Mn.newT_4_c, ↓Mn.newL_4_c, ↓Mn.newT_5_c, ↓Mn.newL_5_c, ↓Mn.newT_6_c, ↓Mn.newL_6_c, ↓Mn.newT_7_c, ↓Mn.newL_7_c, ↓Mn.newT_8_c, ↓Mn.newL_8_c, ↓Mn.newT_9_c, ↓Mn.newL_9_c, ↓Mn.isi_non_int_c, ↓Mn.isi_non_bool_c, ↓Mn.isi_non_str_c, ↓Mn.isi_non_tuple_c, ↓Mn.isi_non_list_c, ↓Mn.isi_bl_int_c, ↓Mn.isi_bl_bool_c, ↓Mn.isi_bl_str_c, ↓Mn.isi_bl_tuple_c, ↓Mn.isi_bl_list_c, ↓Mn.isi_int_int_c, ↓Mn.isi_int_bool_c, ↓Mn.isi_int_str_c, ↓Mn.isi_int_tuple_c, ↓Mn.isi_int_list_c, ↓Mn.isi_str_int_c, ↓Mn.isi_str_bool_c, ↓Mn.isi_str_str_c, ↓Mn.isi_str_tuple_c, ↓Mn.isi_str_list_c, ↓Mn.isi_tup_int_c, ↓Mn.isi_tup_bool_c, ↓Mn.isi_tup_str_c, ↓Mn.isi_tup_tuple_c, ↓Mn.isi_tup_list_c, ↓Mn.isi_lst_int_c, ↓Mn.isi_lst_bool_c, ↓Mn.isi_lst_str_c, ↓Mn.isi_lst_tuple_c, ↓Mn.isi_lst_list_c, ↓Mn.ix_t0_c, ↓Mn.ix_t1_c, ↓Mn.ix_l0_c, ↓Mn.ix_l1_c, ↓Mn.wp_nx, ↓Mn.wp_rt, ↓Mn.wp_exc, ↓Mn.wp_stuck, ↓Mn.wp_ite, ↓Mn.wpV_zero, ↓Mn.wpV_succ, ↓Mn.wpB_one, ↓Mn.wpB_2, ↓Mn.wpB_3, ↓Mn.wp_nil, ↓Mn.wp_cons, ↓Mn.wp_asg, ↓Mn.wp_put, ↓Mn.wp_asgT, ↓Mn.wp_tupS, ↓Mn.wp_ts0, ↓Mn.wp_tsV, ↓Mn.wp_tsS, ↓Mn.wp_par, ↓Mn.wp_expr, ↓Mn.wp_ret, ↓Mn.wp_if, ↓Mn.wp_for, ↓Mn.wp_while, ↓Mn.wp_rais, ↓Mn.wp_try, ↓Mn.hnd_cons, ↓Mn.enum_c, ↓Mn.enumL_c, ↓Mn.tuple_c, ↓Mn.tupleT_c, Mn.truD_bl, Mn.truD_int, Mn.truD_non, Mn.truD_tup, Mn.truD_lst, Mn.truD_scr, Mn.tru1_bl, Mn.tru1_int, Mn.shaped_int, Mn.eqv_int, Mn.sq_tup, Mn.sq_lst, Mn.sq_scr, Mn.lst_lst, Mn.at_0, Mn.at_1, Mn.take_self, Mn.take_app, List.getElem?_cons_zero, List.getElem?_cons_succ, ↓reduceIte, List.map_cons, List.map_nil, List.replicate, List.append, List.cons_append, List.nil_append, List.length_cons, List.length_nil, Nat.reduceSub, Nat.reduceAdd, Nat.sub_self, Bool.false_eq_true, Bool.not_true, Bool.not_false, decide_true, decide_false, List.length_map, bne_self_eq_false, and_true, true_and, and_self, $args,*])
  | `(tactic| simp_arith only) => `(tactic| simp only [↓Mn.tcaseB_bl, ↓Mn.cps_ok, ↓Mn.cps_exc, ↓Mn.cps_stuck, ↓Mn.bind_is, ↓Mn.st_is, ↓Mn.only_is, ↓Mn.cps_cps, ↓Mn.bind_cps, ↓Mn.tcase_some, ↓Mn.cps_ite, ↓Mn.rdV_some, ↓Mn.ev_var, ↓Mn.ev_frz, ↓Mn.ev_cst, ↓Mn.ev_tup, ↓Mn.ev_lst, ↓Mn.ev_bin, ↓Mn.ev_neg, ↓Mn.ev_not, ↓Mn.ev_cmp, ↓Mn.ev_chain, ↓Mn.ev_ite, ↓Mn.ev_and, ↓Mn.ev_or, ↓Mn.ev_a1, ↓Mn.ev_r1, ↓Mn.ev_a2, ↓Mn.ev_r2, ↓Mn.ev_ix, ↓Mn.ev_sl, ↓Mn.ev_rev, ↓Mn.ev_call, ↓Mn.ev_bi, ↓Mn.ev_isi, ↓Mn.ev_bm, ↓Mn.ev_lc, ↓Mn.ev_nil, ↓Mn.ev_cons, ↓Mn.ev_o0, ↓Mn.ev_o1, ↓Mn.ev_iexp, ↓Mn.ev_irng1, ↓Mn.ev_irng2, ↓Mn.ev_ienum, ↓Mn.ev_izip, ↓Mn.tcase_bl, ↓Mn.tcase_int, ↓Mn.tcase_non, ↓Mn.tcase_tup, ↓Mn.tcase_lst, ↓Mn.tcase_scr, ↓Mn.bin_add_c, ↓Mn.bin_sub_c, ↓Mn.neg_int_c, ↓Mn.cmp_lt_c, ↓Mn.cmp_le_c, ↓Mn.cmp_gt_c, ↓Mn.cmp_ge_c, ↓Mn.cmp_eqi_c, ↓Mn.cmp_nei_c, ↓Mn.itr_tup_c, ↓Mn.itr_lst_c, ↓Mn.itr_scr_c, ↓Mn.len_seq_c, ↓Mn.len_lst_c, ↓Mn.len_scr_c, ↓Mn.bi_abs_c, ↓Mn.ofO_some_c, ↓Mn.newT_0_c, ↓Mn.newL_0_c, ↓Mn.newT_1_c, ↓Mn.newL_1_c, ↓Mn.newT_2_c, ↓Mn.newL_2_c, ↓Mn.newT_3_c, ↓Mn.newL_3_c, ↓Mn.newT_4_c, ↓Mn.newL_4_c, ↓Mn.newT_5_c, ↓Mn.newL_5_c, ↓Mn.newT_6_c, ↓Mn.newL_6_c, ↓Mn.newT_7_c, ↓Mn.newL_7_c, ↓Mn.newT_8_c, ↓Mn.newL_8_c, ↓Mn.newT_9_c, ↓Mn.newL_9_c, ↓Mn.isi_non_int_c, ↓Mn.isi_non_bool_c, ↓Mn.isi_non_str_c, ↓Mn.isi_non_tuple_c, ↓Mn.isi_non_list_c, ↓Mn.isi_bl_int_c, ↓Mn.isi_bl_bool_c, ↓Mn.isi_bl_str_c, ↓Mn.isi_bl_tuple_c, ↓Mn.isi_bl_list_c, ↓Mn.isi_int_int_c, ↓Mn.isi_int_bool_c, ↓Mn.isi_int_str_c, ↓Mn.isi_int_tuple_c, ↓Mn.isi_int_list_c, ↓Mn.isi_str_int_c, ↓Mn.isi_str_bool_c, ↓Mn.isi_str_str_c, ↓Mn.isi_str_tuple_c, ↓Mn.isi_str_list_c, ↓Mn.isi_tup_int_c, ↓Mn.isi_tup_bool_c, ↓Mn.isi_tup_str_c, ↓Mn.isi_tup_tuple_c, ↓Mn.isi_tup_list_c, ↓Mn.isi_lst_int_c, ↓Mn.isi_lst_bool_c, ↓Mn.isi_lst_str_c, ↓Mn.isi_lst_tuple_c, ↓Mn.isi_lst_list_c, ↓Mn.ix_t0_c, ↓Mn.ix_t1_c, ↓Mn.ix_l0_c, ↓Mn.ix_l1_c, ↓Mn.wp_nx, ↓Mn.wp_rt, ↓Mn.wp_exc, ↓Mn.wp_stuck, ↓Mn.wp_ite, ↓Mn.wpV_zero, ↓Mn.wpV_succ, ↓Mn.wpB_one, ↓Mn.wpB_2, ↓Mn.wpB_3, ↓Mn.wp_nil, ↓Mn.wp_cons, ↓Mn.wp_asg, ↓Mn.wp_put, ↓Mn.wp_asgT, ↓Mn.wp_tupS, ↓Mn.wp_ts0, ↓Mn.wp_tsV, ↓Mn.wp_tsS, ↓Mn.wp_par, ↓Mn.wp_expr, ↓Mn.wp_ret, ↓Mn.wp_if, ↓Mn.wp_for, ↓Mn.wp_while, ↓Mn.wp_rais, ↓Mn.wp_try, ↓Mn.hnd_cons, ↓Mn.enum_c, ↓Mn.enumL_c, ↓Mn.tuple_c, ↓Mn.tupleT_c, Mn.truD_bl, Mn.truD_int, Mn.truD_non, Mn.truD_tup, Mn.truD_lst, Mn.truD_scr, Mn.tru1_bl, Mn.tru1_int, Mn.shaped_int, Mn.eqv_int, Mn.sq_tup, Mn.sq_lst, Mn.sq_scr, Mn.lst_lst, Mn.at_0, Mn.at_1, Mn.take_self, Mn.take_app, List.getElem?_cons_zero, List.getElem?_cons_succ, ↓reduceIte, List.map_cons, List.map_nil, List.replicate, List.append, List.cons_append, List.nil_append, List.length_cons, List.length_nil, Nat.reduceSub, Nat.reduceAdd, Nat.sub_self, Bool.false_eq_true, Bool.not_true, Bool.not_false, decide_true, decide_false, List.length_map, bne_self_eq_false, and_true, true_and, and_self])
namespace Mn
open PySem
def Bt (n : Nat) (i : Int) : Prop := i.natAbs < 2 ^ n
theorem Bt.mono {n m : Nat} {i : Int} (h : Bt n i) (l : n ≤ m) : Bt m i := Nat.lt_of_lt_of_le h (Nat.pow_le_pow_right (by decide) l)
theorem Bt.mul {n m : Nat} {i j : Int} (h : Bt n i) (g : Bt m j) : Bt (n + m) (i * j) := by
  unfold Bt at *
  rw [Int.natAbs_mul, Nat.pow_add]
  exact Nat.mul_lt_mul'' h g
theorem Bt.add {n : Nat} {i j : Int} (h : Bt n i) (g : Bt n j) : Bt (n + 1) (i + j) := by
  unfold Bt at *
  rw [Nat.pow_succ]
  have := Int.natAbs_add_le i j
  omega
theorem Bt.neg {n : Nat} {i : Int} (h : Bt n i) : Bt n (-i) := by unfold Bt at *; rwa [Int.natAbs_neg]
theorem Bt.nat {n m : Nat} (h : m < 2 ^ n) : Bt n (m : Int) := by unfold Bt; simpa using h
theorem log_lt {n k : Nat} (h : n < 2 ^ k) : n.log2 ≤ k := by
  rcases Nat.eq_zero_or_pos n with e | e
  · subst e; simp
  · exact Nat.le_of_lt ((Nat.log2_lt (by omega)).mpr h)
theorem mul_bt {n m : Nat} {i j : Int} (h : Bt n i) (g : Bt m j) (l : n + m < 1000000) : mulOk i j = true := by
  unfold mulOk
  have a := log_lt h
  have b := log_lt g
  exact decide_eq_true (by omega)
theorem div_bt {n : Nat} {j : Int} (p : 0 < j) (h : Bt n j) (l : n < 9000) : divOk j = true := by
  unfold divOk
  have a := log_lt h
  rw [Bool.and_eq_true]
  exact ⟨decide_eq_true p, decide_eq_true (by omega)⟩
theorem mul_c {β : Type} {m : Bool} {i j : Int} (h : mulOk i j = true) {S : Store} {k : D → Store → β} {x : Nat → Store → β} {z : β} : (binD m .mul (.int i) (.int j) S).cps k x z = k (.int (i * j)) S := cps_of (bin_mul h)
theorem div_c {β : Type} {m : Bool} {i j : Int} (h : divOk j = true) {S : Store} {k : D → Store → β} {x : Nat → Store → β} {z : β} : (binD m .fdiv (.int i) (.int j) S).cps k x z = k (.int (i / j)) S := cps_of (bin_div h)
theorem mod_c {β : Type} {m : Bool} {i j : Int} (h : 0 < j) {S : Store} {k : D → Store → β} {x : Nat → Store → β} {z : β} : (binD m .mod (.int i) (.int j) S).cps k x z = k (.int (i % j)) S := cps_of (bin_mod h)

/-- a fraction, as the program has it -/
def fr (q : Rat) : D := .tup [.int q.num, .int (q.den : Nat)]
theorem fr_pure {q : Rat} : D.pure (fr q) = true := rfl
@[simp ↓] theorem fr_ix0 {β : Type} {q : Rat} {S : Store} {k : D → Store → β} {x : Nat → Store → β} {z : β} : (ixS (fr q) (.int 0) S).cps k x z = k (.int q.num) S := cps_of ix_t0
@[simp ↓] theorem fr_ix1 {β : Type} {q : Rat} {S : Store} {k : D → Store → β} {x : Nat → Store → β} {z : β} : (ixS (fr q) (.int 1) S).cps k x z = k (.int (q.den : Nat)) S := cps_of ix_t1
theorem fr_inj {p q : Rat} (h : fr p = fr q) : p = q := by
  simp only [fr, D.tup.injEq, List.cons.injEq, D.int.injEq, and_true] at h
  exact Rat.ext h.1 (by omega)
def Sz (n : Nat) (q : Rat) : Prop := Bt n q.num ∧ Bt n (q.den : Nat)
theorem Sz.mono {n m : Nat} {q : Rat} (h : Sz n q) (l : n ≤ m) : Sz m q := ⟨h.1.mono l, h.2.mono l⟩
theorem den_pos (q : Rat) : (0 : Int) < (q.den : Nat) := by have := q.den_nz; omega
theorem sz_divInt {n m : Nat} {t b : Int} (h : Bt n t) (g : Bt n b) (hb : b ≠ 0) : Sz n (Rat.divInt t b) := by
  have hpos : 0 < b.gcd t := Nat.pos_of_ne_zero fun e => hb (Int.gcd_eq_zero_iff.mp e).1
  refine ⟨?_, ?_⟩
  · unfold Bt at *
    rw [Rat.num_divInt]
    have h1 : (b.sign * t / (b.gcd t : Int)).natAbs ≤ (b.sign * t).natAbs := Int.natAbs_ediv_le_natAbs _ _
    have h2 : (b.sign * t).natAbs ≤ t.natAbs := by
      rw [Int.natAbs_mul, Int.natAbs_sign_of_ne_zero hb]; simp
    omega
  · refine Bt.nat ?_
    rw [Rat.den_divInt, if_neg hb]
    exact Nat.lt_of_le_of_lt (Nat.div_le_self _ _) g
theorem sz_neg {n : Nat} {p : Rat} (h : Sz n p) : Sz n (-p) := ⟨by rw [Rat.neg_num]; exact h.1.neg, by rw [Rat.neg_den]; exact h.2⟩
theorem add_is {p q : Rat} : p + q = Rat.divInt (p.num * (q.den : Nat) + q.num * (p.den : Nat)) ((p.den : Nat) * (q.den : Nat)) := by
  rw [Rat.add_def', ← Rat.divInt_ofNat]; simp
theorem mul_is {p q : Rat} : p * q = Rat.divInt (p.num * q.num) ((p.den : Nat) * (q.den : Nat)) := by
  rw [Rat.mul_def', ← Rat.divInt_ofNat]; simp
theorem div_is {p q : Rat} : p / q = Rat.divInt (p.num * (q.den : Nat)) ((p.den : Nat) * q.num) := by
  rw [Rat.div_def, Rat.inv_def]
  conv => lhs; lhs; rw [← Rat.num_divInt_den p]
  rw [Rat.divInt_mul_divInt]
theorem sz_add {n m : Nat} {p q : Rat} (h : Sz n p) (g : Sz m q) : Sz (n + m + 1) (p + q) := by
  rw [add_is]
  exact sz_divInt (m := 0) ((h.1.mul g.2).add ((g.1.mul h.2).mono (by omega))) ((h.2.mul g.2).mono (by omega)) (Int.ne_of_gt (Int.mul_pos (den_pos p) (den_pos q)))
theorem sz_mul {n m : Nat} {p q : Rat} (h : Sz n p) (g : Sz m q) : Sz (n + m) (p * q) := by
  rw [mul_is]
  exact sz_divInt (m := 0) (h.1.mul g.1) (h.2.mul g.2) (Int.ne_of_gt (Int.mul_pos (den_pos p) (den_pos q)))
theorem sz_sub {n m : Nat} {p q : Rat} (h : Sz n p) (g : Sz m q) : Sz (n + m + 1) (p - q) := by
  rw [Rat.sub_eq_add_neg]; exact sz_add h (sz_neg g)
theorem sz_div {n m : Nat} {p q : Rat} (h : Sz n p) (g : Sz m q) (hq : q ≠ 0) : Sz (n + m) (p / q) := by
  rw [div_is]
  refine sz_divInt (m := 0) (h.1.mul g.2) (h.2.mul g.1) fun e => ?_
  rcases Int.mul_eq_zero.mp e with e | e
  · exact absurd e (Int.ne_of_gt (den_pos p))
  · exact hq (Rat.num_eq_zero.mp e)
theorem fr_divInt {t b : Int} (hb : 0 < b) : fr (Rat.divInt t b) = .tup [.int (t / (Int.gcd t b : Int)), .int (b / (Int.gcd t b : Int))] := by
  unfold fr
  have e1 : (Rat.divInt t b).num = t / (Int.gcd t b : Int) := by
    rw [Rat.num_divInt, Int.sign_eq_one_of_pos hb, Int.one_mul, Int.gcd_comm]
  have e2 : (((Rat.divInt t b).den : Nat) : Int) = b / (Int.gcd t b : Int) := by
    rw [Rat.den_divInt, if_neg (Int.ne_of_gt hb), Int.gcd_comm]
    have : ((b.natAbs : Nat) : Int) = b := by omega
    rw [Int.natCast_ediv, this]
  rw [e1, e2]
theorem fuel_bt {n k : Nat} (h : n < 2 ^ k) (l : k ≤ 20000) : n < fuel := Nat.lt_of_lt_of_le h (by rw [fuel_is]; exact Nat.pow_le_pow_right (by decide) l)
end Mn
namespace Lb
open PySem Mn
theorem common_divisor_c {b : Nat} {S : Store} {a c k : Nat} (h : c < 2 ^ k) (l : k ≤ 20000) : d_common_divisor b [.int a, .int c] S = .ok (.int (Nat.gcd a c : Nat)) S := by
  refine run_eq rfl rfl ?_
  unfold b_common_divisor
  simp_arith only
  refine while_wp (fun n ρ S' => S' = S ∧ ∃ x y : Nat, ρ = [some (.int x), some (.int y)] ∧ y = n ∧ Nat.gcd x y = Nat.gcd a c) fuel (fuel_bt h l) ⟨rfl, a, c, rfl, rfl, rfl⟩ ?_
  rintro n ρ S' ⟨rfl, x, y, rfl, rfl, hg⟩
  simp_arith only
  split
  · rename_i hy
    have hy : 0 < y := by have : (y : Int) ≠ 0 := by simpa using hy
                          omega
    rw [mod_c (by omega)]
    simp_arith only
    refine ⟨x % y, Nat.mod_lt _ hy, y, x % y, ?_, rfl, ?_⟩
    · simp
    · rw [← hg, Nat.gcd_comm x y, Nat.gcd_rec y x, Nat.gcd_comm]
  · rename_i hy
    have hy : y = 0 := by simpa using hy
    subst hy
    simp only [Nat.gcd_zero_right] at hg
    rw [hg]
theorem lowest_terms_c {b n : Nat} {S : Store} {t bt : Int} (hb : bt ≠ 0) (h : Bt n bt) (l : n ≤ 8999) : d_lowest_terms b [.int t, .int bt] S = .ok (fr (Rat.divInt t bt)) S := by
  refine run_eq rfl fr_pure ?_
  unfold b_lowest_terms
  simp_arith only
  have key : ∀ (t bt : Int), 0 < bt → Bt n bt → (d_common_divisor S.length [.int (t.natAbs : Nat), .int bt] S).cps (fun d S1 => (binD false .fdiv (.int t) d S1).cps (fun e S2 => (binD false .fdiv (.int bt) d S2).cps (fun f S3 => D.tup [e, f] = fr (Rat.divInt t bt) ∧ S3.take S.length = S) noX False) noX False) noX False := by
    intro t bt hp hbt
    obtain ⟨m, rfl⟩ : ∃ m : Nat, bt = (m : Int) := ⟨bt.natAbs, by omega⟩
    rw [common_divisor_c (k := n) (by simpa [Bt] using hbt) (by omega)]
    have hg : (0 : Int) < (Nat.gcd t.natAbs m : Nat) := by
      have := Nat.gcd_pos_of_pos_right t.natAbs (show 0 < m by omega)
      omega
    have hgl : Bt n ((Nat.gcd t.natAbs m : Nat) : Int) := Bt.nat (Nat.lt_of_le_of_lt (Nat.gcd_le_right _ (by omega)) (by simpa [Bt] using hbt))
    simp_arith only [div_c (div_bt hg hgl (by omega))]
    exact (fr_divInt hp).symm
  by_cases hneg : bt < 0
  · simp only [hneg, decide_true, if_true, ↓Mn.tcaseB_bl, ↓Mn.cps_ok, ↓Mn.cps_exc, ↓Mn.cps_stuck, ↓Mn.bind_is, ↓Mn.st_is, ↓Mn.only_is, ↓Mn.cps_cps, ↓Mn.bind_cps, ↓Mn.tcase_some, ↓Mn.cps_ite, ↓Mn.rdV_some, ↓Mn.ev_var, ↓Mn.ev_frz, ↓Mn.ev_cst, ↓Mn.ev_tup, ↓Mn.ev_lst, ↓Mn.ev_bin, ↓Mn.ev_neg, ↓Mn.ev_not, ↓Mn.ev_cmp, ↓Mn.ev_chain, ↓Mn.ev_ite, ↓Mn.ev_and, ↓Mn.ev_or, ↓Mn.ev_a1, ↓Mn.ev_r1, ↓Mn.ev_a2, ↓Mn.ev_r2, ↓Mn.ev_ix, ↓Mn.ev_sl, ↓Mn.ev_rev, ↓Mn.ev_call, ↓Mn.ev_bi, ↓Mn.ev_isi, ↓Mn.ev_bm, ↓Mn.ev_lc, ↓Mn.ev_nil, ↓Mn.ev_cons, ↓Mn.ev_o0, ↓Mn.ev_o1, ↓Mn.ev_iexp, ↓Mn.ev_irng1, ↓Mn.ev_irng2, ↓Mn.ev_ienum, ↓Mn.ev_izip, ↓Mn.tcase_bl, ↓Mn.tcase_int, ↓Mn.tcase_non, ↓Mn.tcase_tup, ↓Mn.tcase_lst, ↓Mn.tcase_scr, ↓Mn.bin_add_c, ↓Mn.bin_sub_c, ↓Mn.neg_int_c, ↓Mn.cmp_lt_c, ↓Mn.cmp_le_c, ↓Mn.cmp_gt_c, ↓Mn.cmp_ge_c, ↓Mn.cmp_eqi_c, ↓Mn.cmp_nei_c, ↓Mn.itr_tup_c, ↓Mn.itr_lst_c, ↓Mn.itr_scr_c, ↓Mn.len_seq_c, ↓Mn.len_lst_c, ↓Mn.len_scr_c, ↓Mn.bi_abs_c, ↓Mn.ofO_some_c, ↓Mn.newT_0_c, ↓Mn.newL_0_c, ↓Mn.newT_1_c, ↓Mn.newL_1_c, ↓Mn.newT_2_c, ↓Mn.newL_2_c, ↓Mn.newT_3_c, ↓Mn.newL_3_c, ↓Mn.newT_4_c, ↓Mn.newL_4_c, ↓Mn.newT_5_c, ↓Mn.newL_5_c, ↓Mn.newT_6_c, ↓Mn.newL_6_c, ↓Mn.newT_7_c, ↓Mn.newL_7_c, ↓Mn.newT_8_c, ↓Mn.newL_8_c, ↓Mn.newT_9_c, ↓Mn.newL_9_c, ↓Mn.isi_non_int_c, ↓Mn.isi_non_bool_c, ↓Mn.isi_non_str_c, ↓Mn.isi_non_tuple_c, ↓Mn.isi_non_list_c, ↓Mn.isi_bl_int_c, ↓Mn.isi_bl_bool_c, ↓Mn.isi_bl_str_c, ↓Mn.isi_bl_tuple_c, ↓Mn.isi_bl_list_c, ↓Mn.isi_int_int_c, ↓Mn.isi_int_bool_c, ↓Mn.isi_int_str_c, ↓Mn.isi_int_tuple_c, ↓Mn.isi_int_list_c, ↓Mn.isi_str_int_c, ↓Mn.isi_str_bool_c, ↓Mn.isi_str_str_c, ↓Mn.isi_str_tuple_c, ↓Mn.isi_str_list_c, ↓Mn.isi_tup_int_c, ↓Mn.isi_tup_bool_c, ↓Mn.isi_tup_str_c, ↓Mn.isi_tup_tuple_c, ↓Mn.isi_tup_list_c, ↓Mn.isi_lst_int_c, ↓Mn.isi_lst_bool_c, ↓Mn.isi_lst_str_c, ↓Mn.isi_lst_tuple_c, ↓Mn.isi_lst_list_c, ↓Mn.ix_t0_c, ↓Mn.ix_t1_c, ↓Mn.ix_l0_c, ↓Mn.ix_l1_c, ↓Mn.wp_nx, ↓Mn.wp_rt, ↓Mn.wp_exc, ↓Mn.wp_stuck, ↓Mn.wp_ite, ↓Mn.wpV_zero, ↓Mn.wpV_succ, ↓Mn.wpB_one, ↓Mn.wpB_2, ↓Mn.wpB_3, ↓Mn.wp_nil, ↓Mn.wp_cons, ↓Mn.wp_asg, ↓Mn.wp_put, ↓Mn.wp_asgT, ↓Mn.wp_tupS, ↓Mn.wp_ts0, ↓Mn.wp_tsV, ↓Mn.wp_tsS, ↓Mn.wp_par, ↓Mn.wp_expr, ↓Mn.wp_ret, ↓Mn.wp_if, ↓Mn.wp_for, ↓Mn.wp_while, ↓Mn.wp_rais, ↓Mn.wp_try, ↓Mn.hnd_cons, ↓Mn.enum_c, ↓Mn.enumL_c, ↓Mn.tuple_c, ↓Mn.tupleT_c, Mn.truD_bl, Mn.truD_int, Mn.truD_non, Mn.truD_tup, Mn.truD_lst, Mn.truD_scr, Mn.tru1_bl, Mn.tru1_int, Mn.shaped_int, Mn.eqv_int, Mn.sq_tup, Mn.sq_lst, Mn.sq_scr, Mn.lst_lst, Mn.at_0, Mn.at_1, Mn.take_self, Mn.take_app, List.getElem?_cons_zero, List.getElem?_cons_succ, ↓reduceIte, List.map_cons, List.map_nil, List.replicate, List.append, List.cons_append, List.nil_append, List.length_cons, List.length_nil, Nat.reduceSub, Nat.reduceAdd, Nat.sub_self, Bool.false_eq_true, Bool.not_true, Bool.not_false, decide_true, decide_false, List.length_map, bne_self_eq_false, and_true, true_and, and_self]
    have := key (-t) (-bt) (by omega) h.neg
    rw [Rat.neg_divInt_neg] at this
    exact this
  · simp only [hneg, decide_false, Bool.false_eq_true, if_false, ↓Mn.tcaseB_bl, ↓Mn.cps_ok, ↓Mn.cps_exc, ↓Mn.cps_stuck, ↓Mn.bind_is, ↓Mn.st_is, ↓Mn.only_is, ↓Mn.cps_cps, ↓Mn.bind_cps, ↓Mn.tcase_some, ↓Mn.cps_ite, ↓Mn.rdV_some, ↓Mn.ev_var, ↓Mn.ev_frz, ↓Mn.ev_cst, ↓Mn.ev_tup, ↓Mn.ev_lst, ↓Mn.ev_bin, ↓Mn.ev_neg, ↓Mn.ev_not, ↓Mn.ev_cmp, ↓Mn.ev_chain, ↓Mn.ev_ite, ↓Mn.ev_and, ↓Mn.ev_or, ↓Mn.ev_a1, ↓Mn.ev_r1, ↓Mn.ev_a2, ↓Mn.ev_r2, ↓Mn.ev_ix, ↓Mn.ev_sl, ↓Mn.ev_rev, ↓Mn.ev_call, ↓Mn.ev_bi, ↓Mn.ev_isi, ↓Mn.ev_bm, ↓Mn.ev_lc, ↓Mn.ev_nil, ↓Mn.ev_cons, ↓Mn.ev_o0, ↓Mn.ev_o1, ↓Mn.ev_iexp, ↓Mn.ev_irng1, ↓Mn.ev_irng2, ↓Mn.ev_ienum, ↓Mn.ev_izip, ↓Mn.tcase_bl, ↓Mn.tcase_int, ↓Mn.tcase_non, ↓Mn.tcase_tup, ↓Mn.tcase_lst, ↓Mn.tcase_scr, ↓Mn.bin_add_c, ↓Mn.bin_sub_c, ↓Mn.neg_int_c, ↓Mn.cmp_lt_c, ↓Mn.cmp_le_c, ↓Mn.cmp_gt_c, ↓Mn.cmp_ge_c, ↓Mn.cmp_eqi_c, ↓Mn.cmp_nei_c, ↓Mn.itr_tup_c, ↓Mn.itr_lst_c, ↓Mn.itr_scr_c, ↓Mn.len_seq_c, ↓Mn.len_lst_c, ↓Mn.len_scr_c, ↓Mn.bi_abs_c, ↓Mn.ofO_some_c, ↓Mn.newT_0_c, ↓Mn.newL_0_c, ↓Mn.newT_1_c, ↓Mn.newL_1_c, ↓Mn.newT_2_c, ↓Mn.newL_2_c, ↓Mn.newT_3_c, ↓Mn.newL_3_c, ↓Mn.newT_4_c, ↓Mn.newL_4_c, ↓Mn.newT_5_c, ↓Mn.newL_5_c, ↓Mn.newT_6_c, ↓Mn.newL_6_c, ↓Mn.newT_7_c, ↓Mn.newL_7_c, ↓Mn.newT_8_c, ↓Mn.newL_8_c, ↓Mn.newT_9_c, ↓Mn.newL_9_c, ↓Mn.isi_non_int_c, ↓Mn.isi_non_bool_c, ↓Mn.isi_non_str_c, ↓Mn.isi_non_tuple_c, ↓Mn.isi_non_list_c, ↓Mn.isi_bl_int_c, ↓Mn.isi_bl_bool_c, ↓Mn.isi_bl_str_c, ↓Mn.isi_bl_tuple_c, ↓Mn.isi_bl_list_c, ↓Mn.isi_int_int_c, ↓Mn.isi_int_bool_c, ↓Mn.isi_int_str_c, ↓Mn.isi_int_tuple_c, ↓Mn.isi_int_list_c, ↓Mn.isi_str_int_c, ↓Mn.isi_str_bool_c, ↓Mn.isi_str_str_c, ↓Mn.isi_str_tuple_c, ↓Mn.isi_str_list_c, ↓Mn.isi_tup_int_c, ↓Mn.isi_tup_bool_c, ↓Mn.isi_tup_str_c, ↓Mn.isi_tup_tuple_c, ↓Mn.isi_tup_list_c, ↓Mn.isi_lst_int_c, ↓Mn.isi_lst_bool_c, ↓Mn.isi_lst_str_c, ↓Mn.isi_lst_tuple_c, ↓Mn.isi_lst_list_c, ↓Mn.ix_t0_c, ↓Mn.ix_t1_c, ↓Mn.ix_l0_c, ↓Mn.ix_l1_c, ↓Mn.wp_nx, ↓Mn.wp_rt, ↓Mn.wp_exc, ↓Mn.wp_stuck, ↓Mn.wp_ite, ↓Mn.wpV_zero, ↓Mn.wpV_succ, ↓Mn.wpB_one, ↓Mn.wpB_2, ↓Mn.wpB_3, ↓Mn.wp_nil, ↓Mn.wp_cons, ↓Mn.wp_asg, ↓Mn.wp_put, ↓Mn.wp_asgT, ↓Mn.wp_tupS, ↓Mn.wp_ts0, ↓Mn.wp_tsV, ↓Mn.wp_tsS, ↓Mn.wp_par, ↓Mn.wp_expr, ↓Mn.wp_ret, ↓Mn.wp_if, ↓Mn.wp_for, ↓Mn.wp_while, ↓Mn.wp_rais, ↓Mn.wp_try, ↓Mn.hnd_cons, ↓Mn.enum_c, ↓Mn.enumL_c, ↓Mn.tuple_c, ↓Mn.tupleT_c, Mn.truD_bl, Mn.truD_int, Mn.truD_non, Mn.truD_tup, Mn.truD_lst, Mn.truD_scr, Mn.tru1_bl, Mn.tru1_int, Mn.shaped_int, Mn.eqv_int, Mn.sq_tup, Mn.sq_lst, Mn.sq_scr, Mn.lst_lst, Mn.at_0, Mn.at_1, Mn.take_self, Mn.take_app, List.getElem?_cons_zero, List.getElem?_cons_succ, ↓reduceIte, List.map_cons, List.map_nil, List.replicate, List.append, List.cons_append, List.nil_append, List.length_cons, List.length_nil, Nat.reduceSub, Nat.reduceAdd, Nat.sub_self, Bool.false_eq_true, Bool.not_true, Bool.not_false, decide_true, decide_false, List.length_map, bne_self_eq_false, and_true, true_and, and_self]
    exact key t bt (by omega) h
theorem plus_c {b n m : Nat} {S : Store} {p q : Rat} (h : Sz n p) (g : Sz m q) (l : n + m ≤ 8000) : d_plus b [fr p, fr q] S = .ok (fr (p + q)) S := by
  refine run_eq rfl fr_pure ?_
  unfold b_plus
  simp_arith only [fr_ix0, fr_ix1, mul_c (mul_bt h.1 g.2 (by omega)), mul_c (mul_bt g.1 h.2 (by omega)), mul_c (mul_bt h.2 g.2 (by omega))]
  rw [lowest_terms_c (Int.ne_of_gt (Int.mul_pos (den_pos p) (den_pos q))) (h.2.mul g.2) (by omega), ← add_is]
  simp_arith only
theorem minus_c {b n m : Nat} {S : Store} {p q : Rat} (h : Sz n p) (g : Sz m q) (l : n + m ≤ 8000) : d_minus b [fr p, fr q] S = .ok (fr (p - q)) S := by
  refine run_eq rfl fr_pure ?_
  unfold b_minus
  simp_arith only [fr_ix0, fr_ix1]
  rw [show D.tup [.int (-q.num), .int (q.den : Nat)] = fr (-q) from rfl, plus_c h (sz_neg g) l, ← Rat.sub_eq_add_neg]
  simp_arith only
theorem times_c {b n m : Nat} {S : Store} {p q : Rat} (h : Sz n p) (g : Sz m q) (l : n + m ≤ 8000) : d_times b [fr p, fr q] S = .ok (fr (p * q)) S := by
  refine run_eq rfl fr_pure ?_
  unfold b_times
  simp_arith only [fr_ix0, fr_ix1, mul_c (mul_bt h.1 g.1 (by omega)), mul_c (mul_bt h.2 g.2 (by omega))]
  rw [lowest_terms_c (Int.ne_of_gt (Int.mul_pos (den_pos p) (den_pos q))) (h.2.mul g.2) (by omega), ← mul_is]
  simp_arith only
theorem over_c {b n m : Nat} {S : Store} {p q : Rat} (h : Sz n p) (g : Sz m q) (hq : q ≠ 0) (l : n + m ≤ 8000) : d_over b [fr p, fr q] S = .ok (fr (p / q)) S := by
  refine run_eq rfl fr_pure ?_
  unfold b_over
  have hz : ((p.den : Nat) : Int) * q.num ≠ 0 := fun e => by
    rcases Int.mul_eq_zero.mp e with e | e
    · exact absurd e (Int.ne_of_gt (den_pos p))
    · exact hq (Rat.num_eq_zero.mp e)
  simp_arith only [fr_ix0, fr_ix1, mul_c (mul_bt h.1 g.2 (by omega)), mul_c (mul_bt h.2 g.1 (by omega))]
  rw [lowest_terms_c hz (h.2.mul g.1) (by omega), ← div_is]
  simp_arith only
theorem less_c {b n m : Nat} {S : Store} {p q : Rat} (h : Sz n p) (g : Sz m q) (l : n + m ≤ 8000) : d_less b [fr p, fr q] S = .ok (.bl (decide (p < q))) S := by
  refine run_eq rfl rfl ?_
  unfold b_less
  simp_arith only [fr_ix0, fr_ix1, mul_c (mul_bt h.1 g.2 (by omega)), mul_c (mul_bt g.1 h.2 (by omega))]
  congr 1
  rw [decide_eq_decide, Rat.lt_iff]
theorem whole_c {b : Nat} {S : Store} {i : Int} : d_whole b [.int i] S = .ok (fr (i : Rat)) S := by
  refine run_eq rfl fr_pure ?_
  unfold b_whole
  simp_arith only
  rfl
end Lb

/-! Plain: sums of fractions; the law's own fractions. -/
local macro_rules
  | `(tactic| simp_arith only [$args,*]) => `(tactic| simp only [↓Mn.tcaseB_bl, ↓Mn.cps_ok, ↓Mn.cps_exc, ↓Mn.cps_stuck, ↓Mn.bind_is, ↓Mn.st_is, ↓Mn.only_is, ↓Mn.cps_cps, ↓Mn.bind_cps, ↓Mn.tcase_some, ↓Mn.cps_ite, ↓Mn.rdV_some, ↓Mn.ev_var, ↓Mn.ev_frz, ↓Mn.ev_cst, ↓Mn.ev_tup, ↓Mn.ev_lst, ↓Mn.ev_bin, ↓Mn.ev_neg, ↓Mn.ev_not, ↓Mn.ev_cmp, ↓Mn.ev_chain, ↓Mn.ev_ite, ↓Mn.ev_and, ↓Mn.ev_or, ↓Mn.ev_a1, ↓Mn.ev_r1, ↓Mn.ev_a2, ↓Mn.ev_r2, ↓Mn.ev_ix, ↓Mn.ev_sl, ↓Mn.ev_rev, ↓Mn.ev_call, ↓Mn.ev_bi, ↓Mn.ev_isi, ↓Mn.ev_bm, ↓Mn.ev_lc, ↓Mn.ev_nil, ↓Mn.ev_cons, ↓Mn.ev_o0, ↓Mn.ev_o1, ↓Mn.ev_iexp, ↓Mn.ev_irng1, ↓Mn.ev_irng2, ↓Mn.ev_ienum, ↓Mn.ev_izip, ↓Mn.tcase_bl, ↓Mn.tcase_int, ↓Mn.tcase_non, ↓Mn.tcase_tup, ↓Mn.tcase_lst, ↓Mn.tcase_scr, ↓Mn.bin_add_c, ↓Mn.bin_sub_c, ↓Mn.neg_int_c, ↓Mn.cmp_lt_c, ↓Mn.cmp_le_c, ↓Mn.cmp_gt_c, ↓Mn.cmp_ge_c, ↓Mn.cmp_eqi_c, ↓Mn.cmp_nei_c, ↓Mn.itr_tup_c, ↓Mn.itr_lst_c, ↓Mn.itr_scr_c, ↓Mn.len_seq_c, ↓Mn.len_lst_c, ↓Mn.len_scr_c, ↓Mn.bi_abs_c, ↓Mn.ofO_some_c, ↓Mn.newT_0_c, ↓Mn.newL_0_c, ↓Mn.newT_1_c, ↓Mn.newL_1_c, ↓Mn.newT_2_c, ↓Mn.newL_2_c, ↓Mn.newT_3_c, ↓Mn.newL_3_c, ↓Mn.newT_4_c, ↓Mn.newL_4_c, ↓Mn.newT_5_c, ↓Mn.newL_5_c, ↓Mn.newT_6_c, ↓Mn.newL_6_c, ↓Mn.newT_7_c, ↓Mn.newL_7_c, ↓Mn.newT_8_c, ↓Mn.newL_8_c, ↓Mn.newT_9_c, ↓Mn.newL_9_c, ↓Mn.isi_non_int_c, ↓Mn.isi_non_bool_c, ↓Mn.isi_non_str_c, ↓Mn.isi_non_tuple_c, ↓Mn.isi_non_list_c, ↓Mn.isi_bl_int_c, ↓Mn.isi_bl_bool_c, ↓Mn.isi_bl_str_c, ↓Mn.isi_bl_tuple_c, ↓Mn.isi_bl_list_c, ↓Mn.isi_int_int_c, ↓Mn.isi_int_bool_c, ↓Mn.isi_int_str_c, ↓Mn.isi_int_tuple_c, ↓Mn.isi_int_list_c, ↓Mn.isi_str_int_c, ↓Mn.isi_str_bool_c, ↓Mn.isi_str_str_c, ↓Mn.isi_str_tuple_c, ↓Mn.isi_str_list_c, ↓Mn.isi_tup_int_c, ↓Mn.isi_tup_bool_c, ↓Mn.isi_tup_str_c, ↓Mn.isi_tup_tuple_c, ↓Mn.isi_tup_list_c, ↓Mn.isi_lst_int_c, ↓Mn.isi_lst_bool_c, ↓Mn.isi_lst_str_c, ↓Mn.isi_lst_tuple_c, ↓Mn.isi_lst_list_c, ↓Mn.ix_t0_c, ↓Mn.ix_t1_c, ↓Mn.ix_l0_c, ↓Mn.ix_l1_c, ↓Mn.wp_nx, ↓Mn.wp_rt, ↓Mn.wp_exc, ↓Mn.wp_stuck, ↓Mn.wp_ite, ↓Mn.wpV_zero, ↓Mn.wpV_succ, ↓Mn.wpB_one, ↓Mn.wpB_2, ↓Mn.wpB_3, ↓Mn.wp_nil, ↓Mn.wp_cons, ↓Mn.wp_asg, ↓Mn.wp_put, ↓Mn.wp_asgT, ↓Mn.wp_tupS, ↓Mn.wp_ts0, ↓Mn.wp_tsV, ↓Mn.wp_tsS, ↓Mn.wp_par, ↓Mn.wp_expr, ↓Mn.wp_ret, ↓Mn.wp_if, ↓Mn.wp_for, ↓Mn.wp_while, ↓Mn.wp_rais, ↓Mn.wp_try, ↓Mn.hnd_cons, ↓Mn.enum_c, ↓Mn.enumL_c, ↓Mn.tuple_c, ↓Mn.tupleT_c, ↓Mn.fr_ix0, ↓Mn.fr_ix1, Mn.truD_bl, Mn.truD_int, Mn.truD_non, Mn.truD_tup, Mn.truD_lst, Mn.truD_scr, Mn.tru1_bl, Mn.tru1_int, Mn.shaped_int, Mn.eqv_int, Mn.sq_tup, Mn.sq_lst, Mn.sq_scr, Mn.lst_lst, Mn.at_0, Mn.at_1, Mn.take_self, Mn.take_app, List.getElem?_cons_zero, List.getElem?_cons_succ, ↓reduceIte, List.map_cons, List.map_nil, List.replicate, List.append, List.cons_append, List.nil_append, List.length_cons, List.length_nil, Nat.reduceSub, Nat.reduceAdd, Nat.sub_self, Bool.false_eq_true, Bool.not_true, Bool.not_false, decide_true, decide_false, List.length_map, bne_self_eq_false, and_true, true_and, and_self, $args,*])
  | `(tactic| simp_arith only) => `(tactic| simp only [↓Mn.tcaseB_bl, ↓Mn.cps_ok, ↓Mn.cps_exc, ↓Mn.cps_stuck, ↓Mn.bind_is, ↓Mn.st_is, ↓Mn.only_is, ↓Mn.cps_cps, ↓Mn.bind_cps, ↓Mn.tcase_some, ↓Mn.cps_ite, ↓Mn.rdV_some, ↓Mn.ev_var, ↓Mn.ev_frz, ↓Mn.ev_cst, ↓Mn.ev_tup, ↓Mn.ev_lst, ↓Mn.ev_bin, ↓Mn.ev_neg, ↓Mn.ev_not, ↓Mn.ev_cmp, ↓Mn.ev_chain, ↓Mn.ev_ite, ↓Mn.ev_and, ↓Mn.ev_or, ↓Mn.ev_a1, ↓Mn.ev_r1, ↓Mn.ev_a2, ↓Mn.ev_r2, ↓Mn.ev_ix, ↓Mn.ev_sl, ↓Mn.ev_rev, ↓Mn.ev_call, ↓Mn.ev_bi, ↓Mn.ev_isi, ↓Mn.ev_bm, ↓Mn.ev_lc, ↓Mn.ev_nil, ↓Mn.ev_cons, ↓Mn.ev_o0, ↓Mn.ev_o1, ↓Mn.ev_iexp, ↓Mn.ev_irng1, ↓Mn.ev_irng2, ↓Mn.ev_ienum, ↓Mn.ev_izip, ↓Mn.tcase_bl, ↓Mn.tcase_int, ↓Mn.tcase_non, ↓Mn.tcase_tup, ↓Mn.tcase_lst, ↓Mn.tcase_scr, ↓Mn.bin_add_c, ↓Mn.bin_sub_c, ↓Mn.neg_int_c, ↓Mn.cmp_lt_c, ↓Mn.cmp_le_c, ↓Mn.cmp_gt_c, ↓Mn.cmp_ge_c, ↓Mn.cmp_eqi_c, ↓Mn.cmp_nei_c, ↓Mn.itr_tup_c, ↓Mn.itr_lst_c, ↓Mn.itr_scr_c, ↓Mn.len_seq_c, ↓Mn.len_lst_c, ↓Mn.len_scr_c, ↓Mn.bi_abs_c, ↓Mn.ofO_some_c, ↓Mn.newT_0_c, ↓Mn.newL_0_c, ↓Mn.newT_1_c, ↓Mn.newL_1_c, ↓Mn.newT_2_c, ↓Mn.newL_2_c, ↓Mn.newT_3_c, ↓Mn.newL_3_c, ↓Mn.newT_4_c, ↓Mn.newL_4_c, ↓Mn.newT_5_c, ↓Mn.newL_5_c, ↓Mn.newT_6_c, ↓Mn.newL_6_c, ↓Mn.newT_7_c, ↓Mn.newL_7_c, ↓Mn.newT_8_c, ↓Mn.newL_8_c, ↓Mn.newT_9_c, ↓Mn.newL_9_c, ↓Mn.isi_non_int_c, ↓Mn.isi_non_bool_c, ↓Mn.isi_non_str_c, ↓Mn.isi_non_tuple_c, ↓Mn.isi_non_list_c, ↓Mn.isi_bl_int_c, ↓Mn.isi_bl_bool_c, ↓Mn.isi_bl_str_c, ↓Mn.isi_bl_tuple_c, ↓Mn.isi_bl_list_c, ↓Mn.isi_int_int_c, ↓Mn.isi_int_bool_c, ↓Mn.isi_int_str_c, ↓Mn.isi_int_tuple_c, ↓Mn.isi_int_list_c, ↓Mn.isi_str_int_c, ↓Mn.isi_str_bool_c, ↓Mn.isi_str_str_c, ↓Mn.isi_str_tuple_c, ↓Mn.isi_str_list_c, ↓Mn.isi_tup_int_c, ↓Mn.isi_tup_bool_c, ↓Mn.isi_tup_str_c, ↓Mn.isi_tup_tuple_c, ↓Mn.isi_tup_list_c, ↓Mn.isi_lst_int_c, ↓Mn.isi_lst_bool_c, ↓Mn.isi_lst_str_c, ↓Mn.isi_lst_tuple_c, ↓Mn.isi_lst_list_c, ↓Mn.ix_t0_c, ↓Mn.ix_t1_c, ↓Mn.ix_l0_c, ↓Mn.ix_l1_c, ↓Mn.wp_nx, ↓Mn.wp_rt, ↓Mn.wp_exc, ↓Mn.wp_stuck, ↓Mn.wp_ite, ↓Mn.wpV_zero, ↓Mn.wpV_succ, ↓Mn.wpB_one, ↓Mn.wpB_2, ↓Mn.wpB_3, ↓Mn.wp_nil, ↓Mn.wp_cons, ↓Mn.wp_asg, ↓Mn.wp_put, ↓Mn.wp_asgT, ↓Mn.wp_tupS, ↓Mn.wp_ts0, ↓Mn.wp_tsV, ↓Mn.wp_tsS, ↓Mn.wp_par, ↓Mn.wp_expr, ↓Mn.wp_ret, ↓Mn.wp_if, ↓Mn.wp_for, ↓Mn.wp_while, ↓Mn.wp_rais, ↓Mn.wp_try, ↓Mn.hnd_cons, ↓Mn.enum_c, ↓Mn.enumL_c, ↓Mn.tuple_c, ↓Mn.tupleT_c, ↓Mn.fr_ix0, ↓Mn.fr_ix1, Mn.truD_bl, Mn.truD_int, Mn.truD_non, Mn.truD_tup, Mn.truD_lst, Mn.truD_scr, Mn.tru1_bl, Mn.tru1_int, Mn.shaped_int, Mn.eqv_int, Mn.sq_tup, Mn.sq_lst, Mn.sq_scr, Mn.lst_lst, Mn.at_0, Mn.at_1, Mn.take_self, Mn.take_app, List.getElem?_cons_zero, List.getElem?_cons_succ, ↓reduceIte, List.map_cons, List.map_nil, List.replicate, List.append, List.cons_append, List.nil_append, List.length_cons, List.length_nil, Nat.reduceSub, Nat.reduceAdd, Nat.sub_self, Bool.false_eq_true, Bool.not_true, Bool.not_false, decide_true, decide_false, List.length_map, bne_self_eq_false, and_true, true_and, and_self])
namespace Mn
open PySem
def Szs (n : Nat) (l : List Rat) : Prop := ∀ q ∈ l, Sz n q
theorem sum_app {l : List Rat} {a : Rat} : (l ++ [a]).sum = l.sum + a := by
  induction l with
  | nil => simp [Rat.add_zero, Rat.zero_add]
  | cons b r ih => simp only [List.cons_append, List.sum_cons, ih, Rat.add_assoc]
theorem sz_0 {n : Nat} (h : 1 ≤ n) : Sz n 0 := ⟨Nat.lt_of_lt_of_le (show 0 < 2 ^ 0 by decide) (Nat.pow_le_pow_right (by decide) (by omega)), Nat.lt_of_lt_of_le (show 1 < 2 ^ 1 by decide) (Nat.pow_le_pow_right (by decide) h)⟩
theorem sz_1 {n : Nat} (h : 1 ≤ n) : Sz n 1 := ⟨Nat.lt_of_lt_of_le (show 1 < 2 ^ 1 by decide) (Nat.pow_le_pow_right (by decide) h), Nat.lt_of_lt_of_le (show 1 < 2 ^ 1 by decide) (Nat.pow_le_pow_right (by decide) h)⟩
theorem Szs.take {n : Nat} {l pre post : List Rat} {a : Rat} (h : Szs n l) (e : l = pre ++ a :: post) : Szs n pre ∧ Sz n a := by
  subst e
  exact ⟨fun q hq => h q (List.mem_append_left _ hq), h a (by simp)⟩
theorem sz_sum {n : Nat} : ∀ {l : List Rat}, Szs n l → Sz (l.length * (n + 1) + 1) l.sum
  | [], _ => sz_0 (by omega)
  | a :: r, h => by
    have h1 := h a List.mem_cons_self
    have h2 := sz_sum fun q hq => h q (List.mem_cons_of_mem _ hq)
    rw [List.sum_cons, List.length_cons]
    exact (sz_add h1 h2).mono (by rw [Nat.add_mul]; omega)
theorem sz_sum' {n k : Nat} {l : List Rat} (h : Szs n l) (hl : l.length ≤ k) : Sz (k * (n + 1) + 1) l.sum := (sz_sum h).mono (Nat.add_le_add_right (Nat.mul_le_mul_right _ hl) 1)
def prods (xs ys : List Rat) : List Rat := (xs.zip ys).map fun p => p.1 * p.2
def dot (xs ys : List Rat) : Rat := (prods xs ys).sum
theorem szs_prods {n m : Nat} {xs ys : List Rat} (h : Szs n xs) (g : Szs m ys) : Szs (n + m) (prods xs ys) := by
  intro q hq
  obtain ⟨⟨a, b⟩, hp, rfl⟩ := List.mem_map.mp hq
  exact sz_mul (h a (List.of_mem_zip hp).1) (g b (List.of_mem_zip hp).2)
theorem prods_len {xs ys : List Rat} {k : Nat} (h : xs.length ≤ k ∨ ys.length ≤ k) : (prods xs ys).length ≤ k := by
  unfold prods
  rw [List.length_map, List.length_zip]
  omega
theorem sz_dot {n m k : Nat} {xs ys : List Rat} (h : Szs n xs) (g : Szs m ys) (hl : xs.length ≤ k ∨ ys.length ≤ k) : Sz (k * (n + m + 1) + 1) (dot xs ys) := sz_sum' (szs_prods h g) (prods_len hl)
theorem line_le {n : Nat} (h : n ≤ 10000) : n ≤ line := Nat.le_trans h (by decide)
theorem wipe_2 {a b : Nat} {ρ : Env} : wipeD ρ [a, b] = (ρ.set b none).set a none := rfl
theorem wipe_1 {a : Nat} {ρ : Env} : wipeD ρ [a] = ρ.set a none := rfl
theorem frs_pure {l : List Rat} : D.pures (l.map fr) = true := by
  induction l with
  | nil => rfl
  | cons a r ih => simp only [List.map_cons, D.pures, fr_pure, ih, Bool.and_self]
theorem total_gen {nm : Str} {g : FnSem} (hg : ∀ {b n m : Nat} {S : Store} {p q : Rat}, Sz n p → Sz m q → n + m ≤ 8000 → g b [fr p, fr q] S = .ok (fr (p + q)) S) {b n : Nat} {S : Store} {u : D} {l : List Rat} (hu : SqD u (l.map fr)) (h : Szs n l) (hl : l.length * (n + 1) ≤ 7999) :
    run false 1 3 (.cons (.asg (.var 1) (.tup (.cons (.cst (.int 0)) (.cons (.cst (.int 1)) .nil)))) (.cons (.for_ (.one 2) (.exp (.var 0)) (.cons (.asg (.var 1) (.call nm g (.cons (.var 1) (.cons (.var 2) .nil)))) .nil)) (.cons (.ret (.var 1)) .nil))) b [u] S = .ok (fr l.sum) S := by
  refine run_eq rfl fr_pure ?_
  simp_arith only [itr_c hu]
  refine for_wp (fun pre ρ S' => S' = S ∧ ∃ o, ρ = [some u, some (fr pre.sum), o]) (fun _ _ _ _ => rfl) ⟨rfl, none, rfl⟩ ?_ ?_
  · rintro pre a post e ρ S' ⟨rfl, o, rfl⟩
    have ⟨h1, h2⟩ := h.take e
    have hlen : (pre.length + 1) * (n + 1) ≤ l.length * (n + 1) := Nat.mul_le_mul_right _ (by rw [e]; simp)
    rw [Nat.add_mul] at hlen
    simp_arith only [hg (sz_sum h1) h2 (by omega)]
    exact ⟨_, by rw [sum_app]⟩
  · rintro ρ S' ⟨rfl, o, rfl⟩
    simp_arith only
theorem dot_gen {nm nm' : Str} {g g' : FnSem} (hg : ∀ {b n m : Nat} {S : Store} {p q : Rat}, Sz n p → Sz m q → n + m ≤ 8000 → g b [fr p, fr q] S = .ok (fr (p * q)) S)
    (ht : ∀ {b n : Nat} {S : Store} {u : D} {l : List Rat}, SqD u (l.map fr) → Szs n l → l.length * (n + 1) ≤ 7999 → g' b [u] S = .ok (fr l.sum) S)
    {b n m k : Nat} {S : Store} {u v : D} {xs ys : List Rat} (hu : SqD u (xs.map fr)) (hv : SqD v (ys.map fr)) (h1 : Szs n xs) (h2 : Szs m ys) (hl : xs.length ≤ k ∨ ys.length ≤ k) (hk : k * (n + m + 1) ≤ 7999) (hk2 : k ≤ 10000) (hnm : n + m ≤ 8000) :
    run false 2 4 (.cons (.ret (.call nm' g' (.cons (.lc false [2, 3] (.call nm g (.cons (.var 2) (.cons (.var 3) .nil))) (.tup [2, 3]) (.zip (.var 0) (.var 1)) .none) .nil))) .nil) b [u, v] S = .ok (fr (dot xs ys)) S := by
  refine run_eq rfl fr_pure ?_
  have hlen : (xs.zip ys).length ≤ k := by rw [List.length_zip]; omega
  simp_arith only [zip_c hu hv]
  refine lc_map (fun p : Rat × Rat => fr (p.1 * p.2)) rfl (line_le (by omega)) ?_ ?_
  · rintro ⟨a, c⟩ hp
    have ha := h1 a (List.of_mem_zip hp).1
    have hc := h2 c (List.of_mem_zip hp).2
    simp_arith only [wipe_2, List.set_cons_succ, List.set_cons_zero, hg ha hc hnm]
  · rw [newL_c (by rw [List.length_map]; exact line_le (by omega))]
    have e : (xs.zip ys).map (fun p : Rat × Rat => fr (p.1 * p.2)) = (prods xs ys).map fr := by unfold prods; rw [List.map_map]; rfl
    rw [e]
    rw [ht (.inr rfl) (szs_prods h1 h2) (Nat.le_trans (Nat.mul_le_mul_right _ (prods_len hl)) hk)]
    simp_arith only
    exact congrArg fr rfl
end Mn
namespace Lb
open PySem Mn
theorem total_of_c {b n : Nat} {S : Store} {u : D} {l : List Rat} (hu : SqD u (l.map fr)) (h : Szs n l) (hl : l.length * (n + 1) ≤ 7999) : d_total_of b [u] S = .ok (fr l.sum) S := total_gen plus_c hu h hl
theorem product_sum_c {b n m k : Nat} {S : Store} {u v : D} {xs ys : List Rat} (hu : SqD u (xs.map fr)) (hv : SqD v (ys.map fr)) (h1 : Szs n xs) (h2 : Szs m ys) (hl : xs.length ≤ k ∨ ys.length ≤ k) (hk : k * (n + m + 1) ≤ 7999) (hk2 : k ≤ 10000) (hnm : n + m ≤ 8000) :
    d_product_sum b [u, v] S = .ok (fr (dot xs ys)) S := dot_gen times_c total_of_c hu hv h1 h2 hl hk hk2 hnm
/-! the law's own -/
theorem law_fraction_c {b n m : Nat} {S : Store} {t bt : Int} (hb : bt ≠ 0) (h : Bt n bt) (h' : Bt m t) (l : n ≤ 8999) (l' : m ≤ 20000) : d__law_fraction b [.int t, .int bt] S = .ok (fr (Rat.divInt t bt)) S := by
  refine run_eq rfl fr_pure ?_
  unfold b__law_fraction
  simp_arith only
  refine while_wp (fun n ρ S' => S' = S ∧ ∃ x y : Nat, ρ = [some (.int t), some (.int bt), none, some (.int x), some (.int y)] ∧ y = n ∧ Nat.gcd x y = Nat.gcd t.natAbs bt.natAbs) fuel (n := bt.natAbs) (fuel_bt h (by omega)) ⟨rfl, _, _, rfl, rfl, rfl⟩ ?_
  rintro n' ρ S' ⟨rfl, x, y, rfl, rfl, hg⟩
  simp_arith only
  split
  · rename_i hy
    have hy : 0 < y := by have : (y : Int) ≠ 0 := by simpa using hy
                          omega
    rw [mod_c (by omega)]
    simp_arith only
    refine ⟨x % y, Nat.mod_lt _ hy, y, x % y, ?_, rfl, ?_⟩
    · simp
    · rw [← hg, Nat.gcd_comm x y, Nat.gcd_rec y x, Nat.gcd_comm]
  · rename_i hy
    have hy : y = 0 := by simpa using hy
    subst hy
    simp only [Nat.gcd_zero_right] at hg
    subst hg
    have hgp : 0 < Nat.gcd t.natAbs bt.natAbs := Nat.gcd_pos_of_pos_right _ (by omega)
    have hgl : Bt n ((Nat.gcd t.natAbs bt.natAbs : Nat) : Int) := Bt.nat (Nat.lt_of_le_of_lt (Nat.gcd_le_right _ (by omega)) h)
    have hd := fun {m i S k x z} => div_c (β := Prop) (m := m) (i := i) (div_bt (show (0 : Int) < (Nat.gcd t.natAbs bt.natAbs : Nat) by omega) hgl (by omega)) (S := S) (k := k) (x := x) (z := z)
    have b1 : Bt 1 (1 : Int) := by unfold Bt; decide
    have b2 : Bt 1 (-1 : Int) := by unfold Bt; decide
    by_cases hp : 0 < bt
    · have hd0 : decide (0 < bt) = true := by simpa using hp
      have e := fr_divInt (t := t) hp
      have en : ((bt.natAbs : Nat) : Int) = bt := by omega
      simp_arith only [hd0, mul_c (mul_bt b1 h' (by omega)), hd, e, Int.one_mul, en]
      rfl
    · have hd0 : decide (0 < bt) = false := by simpa using hp
      have e := fr_divInt (t := -t) (b := -bt) (by omega)
      rw [Rat.neg_divInt_neg] at e
      have en : ((bt.natAbs : Nat) : Int) = -bt := by omega
      have e3 : Int.gcd (-t) (-bt) = Nat.gcd t.natAbs bt.natAbs := by unfold Int.gcd; simp
      rw [e3] at e
      simp_arith only [hd0, mul_c (mul_bt b2 h' (by omega)), hd, e, Int.neg_mul, Int.one_mul, en]
theorem law_plus_c {b n m : Nat} {S : Store} {p q : Rat} (h : Sz n p) (g : Sz m q) (l : n + m ≤ 8000) : d__law_plus b [fr p, fr q] S = .ok (fr (p + q)) S := by
  refine run_eq rfl fr_pure ?_
  unfold b__law_plus
  simp_arith only [mul_c (mul_bt h.1 g.2 (by omega)), mul_c (mul_bt g.1 h.2 (by omega)), mul_c (mul_bt h.2 g.2 (by omega))]
  rw [law_fraction_c (n := n + m) (m := n + m + 1) (Int.ne_of_gt (Int.mul_pos (den_pos p) (den_pos q))) (h.2.mul g.2) ((h.1.mul g.2).add ((g.1.mul h.2).mono (by omega))) (by omega) (by omega), ← add_is]
  simp_arith only
theorem law_times_c {b n m : Nat} {S : Store} {p q : Rat} (h : Sz n p) (g : Sz m q) (l : n + m ≤ 8000) : d__law_times b [fr p, fr q] S = .ok (fr (p * q)) S := by
  refine run_eq rfl fr_pure ?_
  unfold b__law_times
  simp_arith only [mul_c (mul_bt h.1 g.1 (by omega)), mul_c (mul_bt h.2 g.2 (by omega))]
  rw [law_fraction_c (n := n + m) (m := n + m) (Int.ne_of_gt (Int.mul_pos (den_pos p) (den_pos q))) (h.2.mul g.2) (h.1.mul g.1) (by omega) (by omega), ← mul_is]
  simp_arith only
theorem law_minus_c {b n m : Nat} {S : Store} {p q : Rat} (h : Sz n p) (g : Sz m q) (l : n + m ≤ 8000) : d__law_minus b [fr p, fr q] S = .ok (fr (p - q)) S := by
  refine run_eq rfl fr_pure ?_
  unfold b__law_minus
  simp_arith only
  rw [show D.tup [.int (-q.num), .int (q.den : Nat)] = fr (-q) from rfl, law_plus_c h (sz_neg g) l, ← Rat.sub_eq_add_neg]
  simp_arith only
theorem law_below_c {b n m : Nat} {S : Store} {p q : Rat} (h : Sz n p) (g : Sz m q) (l : n + m ≤ 8000) : d__law_below b [fr p, fr q] S = .ok (.bl (decide (p < q))) S := by
  refine run_eq rfl rfl ?_
  unfold b__law_below
  simp_arith only [mul_c (mul_bt h.1 g.2 (by omega)), mul_c (mul_bt g.1 h.2 (by omega))]
  congr 1
  rw [decide_eq_decide, Rat.lt_iff]
theorem law_total_c {b n : Nat} {S : Store} {u : D} {l : List Rat} (hu : SqD u (l.map fr)) (h : Szs n l) (hl : l.length * (n + 1) ≤ 7999) : d__law_total b [u] S = .ok (fr l.sum) S := total_gen law_plus_c hu h hl
theorem law_dot_c {b n m k : Nat} {S : Store} {u v : D} {xs ys : List Rat} (hu : SqD u (xs.map fr)) (hv : SqD v (ys.map fr)) (h1 : Szs n xs) (h2 : Szs m ys) (hl : xs.length ≤ k ∨ ys.length ≤ k) (hk : k * (n + m + 1) ≤ 7999) (hk2 : k ≤ 10000) (hnm : n + m ≤ 8000) :
    d__law_dot b [u, v] S = .ok (fr (dot xs ys)) S := dot_gen law_times_c law_total_c hu hv h1 h2 hl hk hk2 hnm
end Lb

/-! Plain: drawn chances, losses, rules. -/
local macro_rules
  | `(tactic| simp_arith only [$args,*]) => `(tactic| simp only [↓Mn.tcaseB_bl, ↓Mn.cps_ok, ↓Mn.cps_exc, ↓Mn.cps_stuck, ↓Mn.bind_is, ↓Mn.st_is, ↓Mn.only_is, ↓Mn.cps_cps, ↓Mn.bind_cps, ↓Mn.tcase_some, ↓Mn.cps_ite, ↓Mn.rdV_some, ↓Mn.ev_var, ↓Mn.ev_frz, ↓Mn.ev_cst, ↓Mn.ev_tup, ↓Mn.ev_lst, ↓Mn.ev_bin, ↓Mn.ev_neg, ↓Mn.ev_not, ↓Mn.ev_cmp, ↓Mn.ev_chain, ↓Mn.ev_ite, ↓Mn.ev_and, ↓Mn.ev_or, ↓Mn.ev_a1, ↓Mn.ev_r1, ↓Mn.ev_a2, ↓Mn.ev_r2, ↓Mn.ev_ix, ↓Mn.ev_sl, ↓Mn.ev_rev, ↓Mn.ev_call, ↓Mn.ev_bi, ↓Mn.ev_isi, ↓Mn.ev_bm, ↓Mn.ev_lc, ↓Mn.ev_nil, ↓Mn.ev_cons, ↓Mn.ev_o0, ↓Mn.ev_o1, ↓Mn.ev_iexp, ↓Mn.ev_irng1, ↓Mn.ev_irng2, ↓Mn.ev_ienum, ↓Mn.ev_izip, ↓Mn.tcase_bl, ↓Mn.tcase_int, ↓Mn.tcase_non, ↓Mn.tcase_tup, ↓Mn.tcase_lst, ↓Mn.tcase_scr, ↓Mn.bin_add_c, ↓Mn.bin_sub_c, ↓Mn.neg_int_c, ↓Mn.cmp_lt_c, ↓Mn.cmp_le_c, ↓Mn.cmp_gt_c, ↓Mn.cmp_ge_c, ↓Mn.cmp_eqi_c, ↓Mn.cmp_nei_c, ↓Mn.itr_tup_c, ↓Mn.itr_lst_c, ↓Mn.itr_scr_c, ↓Mn.len_seq_c, ↓Mn.len_lst_c, ↓Mn.len_scr_c, ↓Mn.bi_abs_c, ↓Mn.ofO_some_c, ↓Mn.newT_0_c, ↓Mn.newL_0_c, ↓Mn.newT_1_c, ↓Mn.newL_1_c, ↓Mn.newT_2_c, ↓Mn.newL_2_c, ↓Mn.newT_3_c, ↓Mn.newL_3_c, ↓Mn.newT_4_c, ↓Mn.newL_4_c, ↓Mn.newT_5_c, ↓Mn.newL_5_c, ↓Mn.newT_6_c, ↓Mn.newL_6_c, ↓Mn.newT_7_c, ↓Mn.newL_7_c, ↓Mn.newT_8_c, ↓Mn.newL_8_c, ↓Mn.newT_9_c, ↓Mn.newL_9_c, ↓Mn.isi_non_int_c, ↓Mn.isi_non_bool_c, ↓Mn.isi_non_str_c, ↓Mn.isi_non_tuple_c, ↓Mn.isi_non_list_c, ↓Mn.isi_bl_int_c, ↓Mn.isi_bl_bool_c, ↓Mn.isi_bl_str_c, ↓Mn.isi_bl_tuple_c, ↓Mn.isi_bl_list_c, ↓Mn.isi_int_int_c, ↓Mn.isi_int_bool_c, ↓Mn.isi_int_str_c, ↓Mn.isi_int_tuple_c, ↓Mn.isi_int_list_c, ↓Mn.isi_str_int_c, ↓Mn.isi_str_bool_c, ↓Mn.isi_str_str_c, ↓Mn.isi_str_tuple_c, ↓Mn.isi_str_list_c, ↓Mn.isi_tup_int_c, ↓Mn.isi_tup_bool_c, ↓Mn.isi_tup_str_c, ↓Mn.isi_tup_tuple_c, ↓Mn.isi_tup_list_c, ↓Mn.isi_lst_int_c, ↓Mn.isi_lst_bool_c, ↓Mn.isi_lst_str_c, ↓Mn.isi_lst_tuple_c, ↓Mn.isi_lst_list_c, ↓Mn.ix_t0_c, ↓Mn.ix_t1_c, ↓Mn.ix_l0_c, ↓Mn.ix_l1_c, ↓Mn.wp_nx, ↓Mn.wp_rt, ↓Mn.wp_exc, ↓Mn.wp_stuck, ↓Mn.wp_ite, ↓Mn.wpV_zero, ↓Mn.wpV_succ, ↓Mn.wpB_one, ↓Mn.wpB_2, ↓Mn.wpB_3, ↓Mn.wp_nil, ↓Mn.wp_cons, ↓Mn.wp_asg, ↓Mn.wp_put, ↓Mn.wp_asgT, ↓Mn.wp_tupS, ↓Mn.wp_ts0, ↓Mn.wp_tsV, ↓Mn.wp_tsS, ↓Mn.wp_par, ↓Mn.wp_expr, ↓Mn.wp_ret, ↓Mn.wp_if, ↓Mn.wp_for, ↓Mn.wp_while, ↓Mn.wp_rais, ↓Mn.wp_try, ↓Mn.hnd_cons, ↓Mn.enum_c, ↓Mn.enumL_c, ↓Mn.tuple_c, ↓Mn.tupleT_c, ↓Mn.fr_ix0, ↓Mn.fr_ix1, Mn.truD_bl, Mn.truD_int, Mn.truD_non, Mn.truD_tup, Mn.truD_lst, Mn.truD_scr, Mn.tru1_bl, Mn.tru1_int, Mn.shaped_int, Mn.eqv_int, Mn.sq_tup, Mn.sq_lst, Mn.sq_scr, Mn.lst_lst, Mn.at_0, Mn.at_1, Mn.take_self, Mn.take_app, List.getElem?_cons_zero, List.getElem?_cons_succ, ↓reduceIte, List.map_cons, List.map_nil, List.replicate, List.append, List.cons_append, List.nil_append, List.length_cons, List.length_nil, Nat.reduceSub, Nat.reduceAdd, Nat.sub_self, Bool.false_eq_true, Bool.not_true, Bool.not_false, decide_true, decide_false, List.length_map, bne_self_eq_false, and_true, true_and, and_self, $args,*])
  | `(tactic| simp_arith only) => `(tactic| simp only [↓Mn.tcaseB_bl, ↓Mn.cps_ok, ↓Mn.cps_exc, ↓Mn.cps_stuck, ↓Mn.bind_is, ↓Mn.st_is, ↓Mn.only_is, ↓Mn.cps_cps, ↓Mn.bind_cps, ↓Mn.tcase_some, ↓Mn.cps_ite, ↓Mn.rdV_some, ↓Mn.ev_var, ↓Mn.ev_frz, ↓Mn.ev_cst, ↓Mn.ev_tup, ↓Mn.ev_lst, ↓Mn.ev_bin, ↓Mn.ev_neg, ↓Mn.ev_not, ↓Mn.ev_cmp, ↓Mn.ev_chain, ↓Mn.ev_ite, ↓Mn.ev_and, ↓Mn.ev_or, ↓Mn.ev_a1, ↓Mn.ev_r1, ↓Mn.ev_a2, ↓Mn.ev_r2, ↓Mn.ev_ix, ↓Mn.ev_sl, ↓Mn.ev_rev, ↓Mn.ev_call, ↓Mn.ev_bi, ↓Mn.ev_isi, ↓Mn.ev_bm, ↓Mn.ev_lc, ↓Mn.ev_nil, ↓Mn.ev_cons, ↓Mn.ev_o0, ↓Mn.ev_o1, ↓Mn.ev_iexp, ↓Mn.ev_irng1, ↓Mn.ev_irng2, ↓Mn.ev_ienum, ↓Mn.ev_izip, ↓Mn.tcase_bl, ↓Mn.tcase_int, ↓Mn.tcase_non, ↓Mn.tcase_tup, ↓Mn.tcase_lst, ↓Mn.tcase_scr, ↓Mn.bin_add_c, ↓Mn.bin_sub_c, ↓Mn.neg_int_c, ↓Mn.cmp_lt_c, ↓Mn.cmp_le_c, ↓Mn.cmp_gt_c, ↓Mn.cmp_ge_c, ↓Mn.cmp_eqi_c, ↓Mn.cmp_nei_c, ↓Mn.itr_tup_c, ↓Mn.itr_lst_c, ↓Mn.itr_scr_c, ↓Mn.len_seq_c, ↓Mn.len_lst_c, ↓Mn.len_scr_c, ↓Mn.bi_abs_c, ↓Mn.ofO_some_c, ↓Mn.newT_0_c, ↓Mn.newL_0_c, ↓Mn.newT_1_c, ↓Mn.newL_1_c, ↓Mn.newT_2_c, ↓Mn.newL_2_c, ↓Mn.newT_3_c, ↓Mn.newL_3_c, ↓Mn.newT_4_c, ↓Mn.newL_4_c, ↓Mn.newT_5_c, ↓Mn.newL_5_c, ↓Mn.newT_6_c, ↓Mn.newL_6_c, ↓Mn.newT_7_c, ↓Mn.newL_7_c, ↓Mn.newT_8_c, ↓Mn.newL_8_c, ↓Mn.newT_9_c, ↓Mn.newL_9_c, ↓Mn.isi_non_int_c, ↓Mn.isi_non_bool_c, ↓Mn.isi_non_str_c, ↓Mn.isi_non_tuple_c, ↓Mn.isi_non_list_c, ↓Mn.isi_bl_int_c, ↓Mn.isi_bl_bool_c, ↓Mn.isi_bl_str_c, ↓Mn.isi_bl_tuple_c, ↓Mn.isi_bl_list_c, ↓Mn.isi_int_int_c, ↓Mn.isi_int_bool_c, ↓Mn.isi_int_str_c, ↓Mn.isi_int_tuple_c, ↓Mn.isi_int_list_c, ↓Mn.isi_str_int_c, ↓Mn.isi_str_bool_c, ↓Mn.isi_str_str_c, ↓Mn.isi_str_tuple_c, ↓Mn.isi_str_list_c, ↓Mn.isi_tup_int_c, ↓Mn.isi_tup_bool_c, ↓Mn.isi_tup_str_c, ↓Mn.isi_tup_tuple_c, ↓Mn.isi_tup_list_c, ↓Mn.isi_lst_int_c, ↓Mn.isi_lst_bool_c, ↓Mn.isi_lst_str_c, ↓Mn.isi_lst_tuple_c, ↓Mn.isi_lst_list_c, ↓Mn.ix_t0_c, ↓Mn.ix_t1_c, ↓Mn.ix_l0_c, ↓Mn.ix_l1_c, ↓Mn.wp_nx, ↓Mn.wp_rt, ↓Mn.wp_exc, ↓Mn.wp_stuck, ↓Mn.wp_ite, ↓Mn.wpV_zero, ↓Mn.wpV_succ, ↓Mn.wpB_one, ↓Mn.wpB_2, ↓Mn.wpB_3, ↓Mn.wp_nil, ↓Mn.wp_cons, ↓Mn.wp_asg, ↓Mn.wp_put, ↓Mn.wp_asgT, ↓Mn.wp_tupS, ↓Mn.wp_ts0, ↓Mn.wp_tsV, ↓Mn.wp_tsS, ↓Mn.wp_par, ↓Mn.wp_expr, ↓Mn.wp_ret, ↓Mn.wp_if, ↓Mn.wp_for, ↓Mn.wp_while, ↓Mn.wp_rais, ↓Mn.wp_try, ↓Mn.hnd_cons, ↓Mn.enum_c, ↓Mn.enumL_c, ↓Mn.tuple_c, ↓Mn.tupleT_c, ↓Mn.fr_ix0, ↓Mn.fr_ix1, Mn.truD_bl, Mn.truD_int, Mn.truD_non, Mn.truD_tup, Mn.truD_lst, Mn.truD_scr, Mn.tru1_bl, Mn.tru1_int, Mn.shaped_int, Mn.eqv_int, Mn.sq_tup, Mn.sq_lst, Mn.sq_scr, Mn.lst_lst, Mn.at_0, Mn.at_1, Mn.take_self, Mn.take_app, List.getElem?_cons_zero, List.getElem?_cons_succ, ↓reduceIte, List.map_cons, List.map_nil, List.replicate, List.append, List.cons_append, List.nil_append, List.length_cons, List.length_nil, Nat.reduceSub, Nat.reduceAdd, Nat.sub_self, Bool.false_eq_true, Bool.not_true, Bool.not_false, decide_true, decide_false, List.length_map, bne_self_eq_false, and_true, true_and, and_self])
namespace Mn
open PySem
/-- a list's value or its cell -/
def Lsv (S : Store) (u : D) (ds : List D) : Prop := u = .lst ds ∨ ∃ n, u = .ref n ∧ S[n]? = some (.lst ds)
theorem lsv_stays {S : Store} {u : D} {ds : List D} (h : Lsv S u ds) : Src.stays (srcOf u ds) S = true := by
  rcases h with rfl | ⟨n, rfl, h⟩
  · rfl
  · exact stays_self h
theorem itrS_c {β : Type} {u : D} {ds : List D} {S : Store} (h : Lsv S u ds) {k : List D × Src → Store → β} {x : Nat → Store → β} {z : β} : (iterD u S).cps k x z = k (ds, srcOf u ds) S := by
  rcases h with rfl | ⟨n, rfl, h⟩
  · exact cps_of rfl
  · rw [itr_ref h]; exact cps_of rfl
theorem sumS_c {β : Type} {m : Bool} {u : D} {ws : List Int} {S : Store} (h : Lsv S u (ws.map D.int)) {k : D → Store → β} {x : Nat → Store → β} {z : β} : (biD m .sum [u] S).cps k x z = k (.int ws.sum) S := by
  rcases h with rfl | ⟨n, rfl, h⟩
  · show (match (seqOf S (.lst (ws.map D.int))).bind fun p => intsOf p.2 with | some ns => Res.ok (D.int ns.sum) S | _ => .stuck).cps k x z = _
    rw [show (seqOf S (.lst (ws.map D.int))).bind (fun p : Bool × List D => intsOf p.2) = some ws from intsOf_map' ws]
    exact cps_of rfl
  · rw [sum_ref h]; exact cps_of rfl
/-- the drawn weights as chances -/
def spr (ws : List Int) : List Rat := ws.map fun w => Rat.divInt w ws.sum
def rowD (l : List Rat) : D := .tup (l.map fr)
def Ch (l : List Rat) : Prop := (∀ q ∈ l, 0 ≤ q) ∧ l.sum = 1
theorem sum_nonneg : ∀ {ws : List Int}, (∀ w ∈ ws, 0 ≤ w) → 0 ≤ ws.sum
  | [], _ => by simp
  | w :: r, h => by
    have h1 := h w List.mem_cons_self
    have h2 := sum_nonneg fun v hv => h v (List.mem_cons_of_mem _ hv)
    simp only [List.sum_cons]; omega
theorem spr_sum {s : Int} : ∀ {ws : List Int}, (ws.map fun w => Rat.divInt w s).sum = (ws.sum : Rat) / (s : Rat)
  | [] => by simp [Rat.div_def]
  | w :: r => by
    rw [List.map_cons, List.sum_cons, spr_sum, List.sum_cons, Rat.divInt_eq_div, Rat.intCast_add]
    rw [Rat.div_def, Rat.div_def, Rat.div_def, Rat.add_mul]
theorem spr_ch {ws : List Int} (h : ∀ w ∈ ws, 0 ≤ w) (hs : 0 < ws.sum) : Ch (spr ws) := by
  refine ⟨fun q hq => ?_, ?_⟩
  · obtain ⟨w, hw, rfl⟩ := List.mem_map.mp hq
    exact Rat.divInt_nonneg (h w hw) (Int.le_of_lt hs)
  · unfold spr
    rw [spr_sum]
    have : (ws.sum : Rat) ≠ 0 := by rw [Ne, Rat.intCast_eq_zero_iff]; omega
    rw [Rat.div_def, Rat.mul_inv_cancel _ this]
theorem spr_pos {ws : List Int} {j : Nat} (hs : 0 < ws.sum) (h : 0 < ws.getD j 0) : 0 < (spr ws).getD j 0 := by
  unfold spr
  rw [List.getD_eq_getElem?_getD, List.getElem?_map]
  rw [List.getD_eq_getElem?_getD] at h
  cases hj : ws[j]? with
  | none => rw [hj] at h; simp at h
  | some w =>
    rw [hj] at h
    simp only [Option.map_some, Option.getD_some] at h ⊢
    rw [Rat.divInt_eq_div, Rat.div_def]
    exact Rat.mul_pos (Rat.intCast_pos.mpr h) (Rat.inv_pos.mpr (Rat.intCast_pos.mpr hs))
theorem spr_len {ws : List Int} : (spr ws).length = ws.length := by simp [spr]
theorem bt_of {n : Nat} {i : Int} {k : Nat} (h : i.natAbs ≤ k) (h2 : k < 2 ^ n) : Bt n i := Nat.lt_of_le_of_lt h h2
/-- small weights -/
def Wt (ws : List Int) : Prop := ∀ w ∈ ws, 0 ≤ w ∧ w ≤ 8
theorem wt_sum : ∀ {ws : List Int}, Wt ws → 0 ≤ ws.sum ∧ ws.sum ≤ 8 * (ws.length : Int)
  | [], _ => by simp
  | w :: r, h => by
    have h1 := h w List.mem_cons_self
    have h2 := wt_sum (ws := r) fun v hv => h v (List.mem_cons_of_mem _ hv)
    simp only [List.sum_cons, List.length_cons]
    omega
theorem wt_bt {ws : List Int} (h : Wt ws) (hl : ws.length ≤ 8) : Bt 7 ws.sum ∧ ∀ w ∈ ws, Bt 7 w := by
  have := wt_sum h
  exact ⟨bt_of (k := 64) (by omega) (by decide), fun w hw => bt_of (k := 64) (by have := h w hw; omega) (by decide)⟩
theorem szs_spr {ws : List Int} (h : Wt ws) (hl : ws.length ≤ 8) (hs : 0 < ws.sum) : Szs 7 (spr ws) := by
  intro q hq
  obtain ⟨w, hw, rfl⟩ := List.mem_map.mp hq
  exact sz_divInt (m := 0) ((wt_bt h hl).2 w hw) (wt_bt h hl).1 (by omega)
theorem rowD_pure {l : List Rat} : D.pure (rowD l) = true := by simp only [rowD, D.pure]; exact frs_pure
theorem range_split {n a : Nat} {pre post : List Nat} (h : List.range n = pre ++ a :: post) : a = pre.length ∧ a < n := by
  have h1 : (List.range n)[pre.length]? = some a := by rw [h]; simp
  have h2 := (List.getElem?_eq_some_iff.mp h1).1
  rw [List.getElem?_range (by simpa using h2)] at h1
  cases h1
  exact ⟨rfl, by simpa using h2⟩
theorem map_len_range {α : Type} {n : Nat} {f : Nat → α} : ((List.range n).map f).length = n := by simp
end Mn
namespace Lb
open PySem Mn
theorem law_spread_c {b : Nat} {S : Store} {u : D} {ws : List Int} (hu : Lsv S u (ws.map D.int)) (hw : Wt ws) (hl : ws.length ≤ 8) (hs : 0 < ws.sum) : d__law_spread b [u] S = .ok (rowD (spr ws)) S := by
  refine run_eq rfl rowD_pure ?_
  unfold b__law_spread
  have hb := wt_bt hw hl
  simp_arith only [itrS_c hu]
  refine lc_map (fun w : Int => fr (Rat.divInt w ws.sum)) (lsv_stays hu) (line_le (by omega)) ?_ ?_
  · intro w hm
    simp_arith only [wipe_1, List.set_cons_succ, List.set_cons_zero, sumS_c hu]
    rw [law_fraction_c (n := 7) (m := 7) (by omega) hb.1 (hb.2 w hm) (by omega) (by omega)]
    simp_arith only
  · rw [newL_c (by rw [List.length_map]; exact line_le (by omega))]
    simp_arith only
    unfold rowD spr
    rw [List.map_map]
    rfl
/-- as many draws as things -/
theorem draws_w {α : Type} {b n k m : Nat} {S : Store} {ns : List Int} {own : List Nat} {nm : Str} {e : ME} {tg : Pat} {ρ : Mn.Env} {f : α → D} {xs : List α} {K : List D → Store → Prop} {x : Nat → Store → Prop} {z : Prop} (hns : ns.length ≤ 63) (h : St n k S) (hk : k + 2 * xs.length ≤ 1000000) (hm : 0 < m)
    (he : ∀ a ∈ xs, wpB tg (f a) (wipeD ρ own) fun ρ1 => ρ1[0]? = some (some (scriptD ns)) ∧ ρ1[1]? = some (some (.ref n)) ∧ ∀ S', Dr n (k + 2 * xs.length) S S' → evE b e ρ1 S' = .ok (.int (m : Nat)) S')
    (hK : ∀ (ws : List Nat) S', ws.length = xs.length → (∀ w ∈ ws, w < m) → Dr n (k + 2 * xs.length) S S' → K (ws.map fun w => D.int (w : Nat)) S') :
    (lcS b own (.call nm d__law_draw (.cons (.var 0) (.cons (.var 1) (.cons e .nil)))) tg .none ρ [] (xs.map f) S).cps K x z := by
  refine lc_wp (fun i acc S' => ∃ ws : List Nat, acc = ws.map (fun w => D.int (w : Nat)) ∧ (∀ w ∈ ws, w < m) ∧ Dr n (k + 2 * i) S S') (fun _ _ _ _ => rfl) (Nat.le_trans (show _ ≤ 1000000 by omega) (by decide)) ⟨[], rfl, fun _ h => by simp at h, Dr.refl (h.mono (by omega))⟩ ?_ ?_
  · rintro i a acc S' hi hl ⟨ws, rfl, hw, hd⟩
    have hmem := List.mem_of_getElem? hi
    have hlt := (List.getElem?_eq_some_iff.mp hi).1
    obtain ⟨ρ1, e1, g0, g1, g2⟩ := pat_wp (he a hmem)
    unfold wpB
    rw [e1]
    simp_arith only [g0, g1]
    have e3 := fun {k x z} => cps_of (β := Prop) (k := k) (x := x) (z := z) (g2 S' (hd.mono (by omega)))
    simp_arith only [↓e3]
    refine W_then (draw_w hns hd.st (by omega) hm) ?_
    rintro _ S'' ⟨r, rfl, hr, hd2⟩
    refine ⟨ws ++ [r], by simp, fun w hw' => ?_, (hd.trans hd2).mono (by omega)⟩
    rcases List.mem_append.mp hw' with h | h
    · exact hw w h
    · rw [List.mem_singleton.mp h]; exact hr
  · rintro ds S' hl ⟨ws, rfl, hw, hd⟩
    exact hK ws S' (by simpa using hl) hw hd
theorem wt_nats {ws : List Nat} {m : Nat} (h : ∀ w ∈ ws, w < m) (hm : m ≤ 9) : Wt (ws.map fun w : Nat => (w : Int)) := by
  intro w hw
  obtain ⟨v, hv, rfl⟩ := List.mem_map.mp hw
  have := h v hv
  omega
theorem ints_nats {ws : List Nat} : (ws.map fun w => D.int (w : Nat)) = (ws.map fun w : Nat => (w : Int)).map D.int := by rw [List.map_map]; rfl
theorem sum_set1 {ws : List Int} (hw : Wt ws) (hl : 0 < ws.length) (hs : ws.sum = 0) : Wt (ws.set 0 1) ∧ 0 < (ws.set 0 1).sum := by
  cases ws with
  | nil => simp at hl
  | cons w r =>
    have h1 := hw w List.mem_cons_self
    have h2 := wt_sum (ws := r) fun v hv => hw v (List.mem_cons_of_mem _ hv)
    simp only [List.sum_cons] at hs
    refine ⟨fun v hv => ?_, by simp only [List.set_cons_zero, List.sum_cons]; omega⟩
    simp only [List.set_cons_zero] at hv
    rcases List.mem_cons.mp hv with rfl | hv
    · omega
    · exact hw v (List.mem_cons_of_mem _ hv)
theorem law_chances_w {b n k m : Nat} {S : Store} {ns : List Int} (hns : ns.length ≤ 63) (h : St n k S) (hk : k ≤ 900000) (hm : 0 < m) (hm8 : m ≤ 8) :
    (d__law_chances b [scriptD ns, .ref n, .int (m : Nat)] S).W fun r S' => ∃ l : List Rat, r = rowD l ∧ l.length = m ∧ Ch l ∧ Szs 7 l ∧ Dr n (k + 20) S S' := by
  refine run_W rfl ?_
  unfold b__law_chances
  simp_arith only [rng1_c (show m ≤ 1000000 by omega)]
  refine draws_w (n := n) (k := k) (m := 4) (ns := ns) hns h (by simp; omega) (by omega) (fun a _ => ?_) (fun ws S' hwl hw hd => ?_)
  · simp_arith only [wipe_1, List.set_cons_succ, List.set_cons_zero]
    exact fun _ _ => rfl
  · rw [List.length_range] at hwl
    rw [newL_r (by rw [List.length_map, hwl]; exact line_le (by omega)), ints_nats]
    have hwt := wt_nats hw (by omega)
    have hd := hd.mono (show k + 2 * (List.range m).length ≤ k + 20 by simp; omega)
    have hlen : S'.length = S.length := hd.len
    have hlt : n < S.length := h.lt
    generalize hv : ws.map (fun w : Nat => (w : Int)) = vs at hwt
    have hvl : vs.length = m := by rw [← hv]; simpa using hwl
    have hcell : (S' ++ [Cell.lst (vs.map D.int)])[S'.length]? = some (.lst (vs.map D.int)) := by simp
    have hu : Lsv (S' ++ [Cell.lst (vs.map D.int)]) (.ref S'.length) (vs.map D.int) := .inr ⟨_, rfl, hcell⟩
    simp_arith only [sumS_c hu]
    have fin : ∀ vs' : List Int, vs'.length = m → Wt vs' → 0 < vs'.sum → D.pure (rowD (spr vs')) = true ∧ ∃ l, rowD (spr vs') = rowD l ∧ l.length = m ∧ Ch l ∧ Szs 7 l ∧ Dr n (k + 20) S (List.take S.length (S' ++ [Cell.lst (vs'.map D.int)])) := fun vs' h1 h2 h3 =>
      ⟨rowD_pure, spr vs', rfl, by rw [spr_len]; exact h1, spr_ch (fun w hw => (h2 w hw).1) h3, szs_spr h2 (by omega) h3, by rw [← hlen, take_app]; exact hd⟩
    by_cases hs : vs.sum = 0
    · have hset := sum_set1 hwt (by omega) hs
      have hsub := fun {ρ} => sub_ref (b := S.length) (k := 0) (v := .int 1) (ρ := ρ) hcell (j := 0) (ixD_nat (k := 0) (by simp; omega)) (fun _ => rfl)
      have e : (S' ++ [Cell.lst (vs.map D.int)]).set S'.length (.lst ((vs.map D.int).set 0 (.int 1))) = S' ++ [Cell.lst ((vs.set 0 1).map D.int)] := by simp
      rw [e] at hsub
      have hu2 : Lsv (S' ++ [Cell.lst ((vs.set 0 1).map D.int)]) (.ref S'.length) ((vs.set 0 1).map D.int) := .inr ⟨_, rfl, by simp⟩
      simp_arith only [hs, hsub, law_spread_c hu2 hset.1 (by simp; omega) hset.2]
      exact fin _ (by simpa using hvl) hset.1 hset.2
    · have h0 := wt_sum hwt
      simp_arith only [hs, law_spread_c hu hwt (by omega) (by omega)]
      exact fin _ hvl hwt (by omega)
end Lb

/-! Plain: drawn losses, rules. -/
local macro_rules
  | `(tactic| simp_arith only [$args,*]) => `(tactic| simp only [↓Mn.tcaseB_bl, ↓Mn.cps_ok, ↓Mn.cps_exc, ↓Mn.cps_stuck, ↓Mn.bind_is, ↓Mn.st_is, ↓Mn.only_is, ↓Mn.cps_cps, ↓Mn.bind_cps, ↓Mn.tcase_some, ↓Mn.cps_ite, ↓Mn.rdV_some, ↓Mn.ev_var, ↓Mn.ev_frz, ↓Mn.ev_cst, ↓Mn.ev_tup, ↓Mn.ev_lst, ↓Mn.ev_bin, ↓Mn.ev_neg, ↓Mn.ev_not, ↓Mn.ev_cmp, ↓Mn.ev_chain, ↓Mn.ev_ite, ↓Mn.ev_and, ↓Mn.ev_or, ↓Mn.ev_a1, ↓Mn.ev_r1, ↓Mn.ev_a2, ↓Mn.ev_r2, ↓Mn.ev_ix, ↓Mn.ev_sl, ↓Mn.ev_rev, ↓Mn.ev_call, ↓Mn.ev_bi, ↓Mn.ev_isi, ↓Mn.ev_bm, ↓Mn.ev_lc, ↓Mn.ev_nil, ↓Mn.ev_cons, ↓Mn.ev_o0, ↓Mn.ev_o1, ↓Mn.ev_iexp, ↓Mn.ev_irng1, ↓Mn.ev_irng2, ↓Mn.ev_ienum, ↓Mn.ev_izip, ↓Mn.tcase_bl, ↓Mn.tcase_int, ↓Mn.tcase_non, ↓Mn.tcase_tup, ↓Mn.tcase_lst, ↓Mn.tcase_scr, ↓Mn.bin_add_c, ↓Mn.bin_sub_c, ↓Mn.neg_int_c, ↓Mn.cmp_lt_c, ↓Mn.cmp_le_c, ↓Mn.cmp_gt_c, ↓Mn.cmp_ge_c, ↓Mn.cmp_eqi_c, ↓Mn.cmp_nei_c, ↓Mn.itr_tup_c, ↓Mn.itr_lst_c, ↓Mn.itr_scr_c, ↓Mn.len_seq_c, ↓Mn.len_lst_c, ↓Mn.len_scr_c, ↓Mn.bi_abs_c, ↓Mn.ofO_some_c, ↓Mn.newT_0_c, ↓Mn.newL_0_c, ↓Mn.newT_1_c, ↓Mn.newL_1_c, ↓Mn.newT_2_c, ↓Mn.newL_2_c, ↓Mn.newT_3_c, ↓Mn.newL_3_c, ↓Mn.newT_4_c, ↓Mn.newL_4_c, ↓Mn.newT_5_c, ↓Mn.newL_5_c, ↓Mn.newT_6_c, ↓Mn.newL_6_c, ↓Mn.newT_7_c, ↓Mn.newL_7_c, ↓Mn.newT_8_c, ↓Mn.newL_8_c, ↓Mn.newT_9_c, ↓Mn.newL_9_c, ↓Mn.isi_non_int_c, ↓Mn.isi_non_bool_c, ↓Mn.isi_non_str_c, ↓Mn.isi_non_tuple_c, ↓Mn.isi_non_list_c, ↓Mn.isi_bl_int_c, ↓Mn.isi_bl_bool_c, ↓Mn.isi_bl_str_c, ↓Mn.isi_bl_tuple_c, ↓Mn.isi_bl_list_c, ↓Mn.isi_int_int_c, ↓Mn.isi_int_bool_c, ↓Mn.isi_int_str_c, ↓Mn.isi_int_tuple_c, ↓Mn.isi_int_list_c, ↓Mn.isi_str_int_c, ↓Mn.isi_str_bool_c, ↓Mn.isi_str_str_c, ↓Mn.isi_str_tuple_c, ↓Mn.isi_str_list_c, ↓Mn.isi_tup_int_c, ↓Mn.isi_tup_bool_c, ↓Mn.isi_tup_str_c, ↓Mn.isi_tup_tuple_c, ↓Mn.isi_tup_list_c, ↓Mn.isi_lst_int_c, ↓Mn.isi_lst_bool_c, ↓Mn.isi_lst_str_c, ↓Mn.isi_lst_tuple_c, ↓Mn.isi_lst_list_c, ↓Mn.ix_t0_c, ↓Mn.ix_t1_c, ↓Mn.ix_l0_c, ↓Mn.ix_l1_c, ↓Mn.wp_nx, ↓Mn.wp_rt, ↓Mn.wp_exc, ↓Mn.wp_stuck, ↓Mn.wp_ite, ↓Mn.wpV_zero, ↓Mn.wpV_succ, ↓Mn.wpB_one, ↓Mn.wpB_2, ↓Mn.wpB_3, ↓Mn.wp_nil, ↓Mn.wp_cons, ↓Mn.wp_asg, ↓Mn.wp_put, ↓Mn.wp_asgT, ↓Mn.wp_tupS, ↓Mn.wp_ts0, ↓Mn.wp_tsV, ↓Mn.wp_tsS, ↓Mn.wp_par, ↓Mn.wp_expr, ↓Mn.wp_ret, ↓Mn.wp_if, ↓Mn.wp_for, ↓Mn.wp_while, ↓Mn.wp_rais, ↓Mn.wp_try, ↓Mn.hnd_cons, ↓Mn.enum_c, ↓Mn.enumL_c, ↓Mn.tuple_c, ↓Mn.tupleT_c, ↓Mn.fr_ix0, ↓Mn.fr_ix1, Mn.truD_bl, Mn.truD_int, Mn.truD_non, Mn.truD_tup, Mn.truD_lst, Mn.truD_scr, Mn.tru1_bl, Mn.tru1_int, Mn.shaped_int, Mn.eqv_int, Mn.sq_tup, Mn.sq_lst, Mn.sq_scr, Mn.lst_lst, Mn.at_0, Mn.at_1, Mn.take_self, Mn.take_app, List.getElem?_cons_zero, List.getElem?_cons_succ, ↓reduceIte, List.map_cons, List.map_nil, List.replicate, List.append, List.cons_append, List.nil_append, List.length_cons, List.length_nil, Nat.reduceSub, Nat.reduceAdd, Nat.sub_self, Bool.false_eq_true, Bool.not_true, Bool.not_false, decide_true, decide_false, List.length_map, bne_self_eq_false, and_true, true_and, and_self, $args,*])
  | `(tactic| simp_arith only) => `(tactic| simp only [↓Mn.tcaseB_bl, ↓Mn.cps_ok, ↓Mn.cps_exc, ↓Mn.cps_stuck, ↓Mn.bind_is, ↓Mn.st_is, ↓Mn.only_is, ↓Mn.cps_cps, ↓Mn.bind_cps, ↓Mn.tcase_some, ↓Mn.cps_ite, ↓Mn.rdV_some, ↓Mn.ev_var, ↓Mn.ev_frz, ↓Mn.ev_cst, ↓Mn.ev_tup, ↓Mn.ev_lst, ↓Mn.ev_bin, ↓Mn.ev_neg, ↓Mn.ev_not, ↓Mn.ev_cmp, ↓Mn.ev_chain, ↓Mn.ev_ite, ↓Mn.ev_and, ↓Mn.ev_or, ↓Mn.ev_a1, ↓Mn.ev_r1, ↓Mn.ev_a2, ↓Mn.ev_r2, ↓Mn.ev_ix, ↓Mn.ev_sl, ↓Mn.ev_rev, ↓Mn.ev_call, ↓Mn.ev_bi, ↓Mn.ev_isi, ↓Mn.ev_bm, ↓Mn.ev_lc, ↓Mn.ev_nil, ↓Mn.ev_cons, ↓Mn.ev_o0, ↓Mn.ev_o1, ↓Mn.ev_iexp, ↓Mn.ev_irng1, ↓Mn.ev_irng2, ↓Mn.ev_ienum, ↓Mn.ev_izip, ↓Mn.tcase_bl, ↓Mn.tcase_int, ↓Mn.tcase_non, ↓Mn.tcase_tup, ↓Mn.tcase_lst, ↓Mn.tcase_scr, ↓Mn.bin_add_c, ↓Mn.bin_sub_c, ↓Mn.neg_int_c, ↓Mn.cmp_lt_c, ↓Mn.cmp_le_c, ↓Mn.cmp_gt_c, ↓Mn.cmp_ge_c, ↓Mn.cmp_eqi_c, ↓Mn.cmp_nei_c, ↓Mn.itr_tup_c, ↓Mn.itr_lst_c, ↓Mn.itr_scr_c, ↓Mn.len_seq_c, ↓Mn.len_lst_c, ↓Mn.len_scr_c, ↓Mn.bi_abs_c, ↓Mn.ofO_some_c, ↓Mn.newT_0_c, ↓Mn.newL_0_c, ↓Mn.newT_1_c, ↓Mn.newL_1_c, ↓Mn.newT_2_c, ↓Mn.newL_2_c, ↓Mn.newT_3_c, ↓Mn.newL_3_c, ↓Mn.newT_4_c, ↓Mn.newL_4_c, ↓Mn.newT_5_c, ↓Mn.newL_5_c, ↓Mn.newT_6_c, ↓Mn.newL_6_c, ↓Mn.newT_7_c, ↓Mn.newL_7_c, ↓Mn.newT_8_c, ↓Mn.newL_8_c, ↓Mn.newT_9_c, ↓Mn.newL_9_c, ↓Mn.isi_non_int_c, ↓Mn.isi_non_bool_c, ↓Mn.isi_non_str_c, ↓Mn.isi_non_tuple_c, ↓Mn.isi_non_list_c, ↓Mn.isi_bl_int_c, ↓Mn.isi_bl_bool_c, ↓Mn.isi_bl_str_c, ↓Mn.isi_bl_tuple_c, ↓Mn.isi_bl_list_c, ↓Mn.isi_int_int_c, ↓Mn.isi_int_bool_c, ↓Mn.isi_int_str_c, ↓Mn.isi_int_tuple_c, ↓Mn.isi_int_list_c, ↓Mn.isi_str_int_c, ↓Mn.isi_str_bool_c, ↓Mn.isi_str_str_c, ↓Mn.isi_str_tuple_c, ↓Mn.isi_str_list_c, ↓Mn.isi_tup_int_c, ↓Mn.isi_tup_bool_c, ↓Mn.isi_tup_str_c, ↓Mn.isi_tup_tuple_c, ↓Mn.isi_tup_list_c, ↓Mn.isi_lst_int_c, ↓Mn.isi_lst_bool_c, ↓Mn.isi_lst_str_c, ↓Mn.isi_lst_tuple_c, ↓Mn.isi_lst_list_c, ↓Mn.ix_t0_c, ↓Mn.ix_t1_c, ↓Mn.ix_l0_c, ↓Mn.ix_l1_c, ↓Mn.wp_nx, ↓Mn.wp_rt, ↓Mn.wp_exc, ↓Mn.wp_stuck, ↓Mn.wp_ite, ↓Mn.wpV_zero, ↓Mn.wpV_succ, ↓Mn.wpB_one, ↓Mn.wpB_2, ↓Mn.wpB_3, ↓Mn.wp_nil, ↓Mn.wp_cons, ↓Mn.wp_asg, ↓Mn.wp_put, ↓Mn.wp_asgT, ↓Mn.wp_tupS, ↓Mn.wp_ts0, ↓Mn.wp_tsV, ↓Mn.wp_tsS, ↓Mn.wp_par, ↓Mn.wp_expr, ↓Mn.wp_ret, ↓Mn.wp_if, ↓Mn.wp_for, ↓Mn.wp_while, ↓Mn.wp_rais, ↓Mn.wp_try, ↓Mn.hnd_cons, ↓Mn.enum_c, ↓Mn.enumL_c, ↓Mn.tuple_c, ↓Mn.tupleT_c, ↓Mn.fr_ix0, ↓Mn.fr_ix1, Mn.truD_bl, Mn.truD_int, Mn.truD_non, Mn.truD_tup, Mn.truD_lst, Mn.truD_scr, Mn.tru1_bl, Mn.tru1_int, Mn.shaped_int, Mn.eqv_int, Mn.sq_tup, Mn.sq_lst, Mn.sq_scr, Mn.lst_lst, Mn.at_0, Mn.at_1, Mn.take_self, Mn.take_app, List.getElem?_cons_zero, List.getElem?_cons_succ, ↓reduceIte, List.map_cons, List.map_nil, List.replicate, List.append, List.cons_append, List.nil_append, List.length_cons, List.length_nil, Nat.reduceSub, Nat.reduceAdd, Nat.sub_self, Bool.false_eq_true, Bool.not_true, Bool.not_false, decide_true, decide_false, List.length_map, bne_self_eq_false, and_true, true_and, and_self])
namespace Mn
open PySem
def mdl (m : List (List Rat)) : D := .tup (m.map rowD)
theorem rowDs_pure {l : List (List Rat)} : D.pures (l.map rowD) = true := by
  induction l with
  | nil => rfl
  | cons a r ih => simp only [List.map_cons, D.pures, rowD_pure, ih, Bool.and_self]
theorem mdl_pure {m : List (List Rat)} : D.pure (mdl m) = true := by simp only [mdl, D.pure]; exact rowDs_pure
/-- whole numbers -/
def intsD (l : List Int) : D := .tup (l.map D.int)
theorem ints_pure {l : List Int} : D.pures (l.map D.int) = true := by
  induction l with
  | nil => rfl
  | cons a r ih => simp only [List.map_cons, D.pures, D.pure, ih, Bool.and_self]
theorem intsD_pure {l : List Int} : D.pure (intsD l) = true := by simp only [intsD, D.pure]; exact ints_pure
def losD (l : List (List Int)) : D := .tup (l.map intsD)
theorem losD_pure {l : List (List Int)} : D.pure (losD l) = true := by
  simp only [losD, D.pure]
  induction l with
  | nil => rfl
  | cons a r ih => simp only [List.map_cons, D.pures, intsD_pure, ih, Bool.and_self]
def natsD (l : List Nat) : D := .tup (l.map fun a : Nat => D.int (a : Nat))
theorem natsD_pure {l : List Nat} : D.pure (natsD l) = true := by
  simp only [natsD, D.pure]
  induction l with
  | nil => rfl
  | cons a r ih => simp only [List.map_cons, D.pures, D.pure, ih, Bool.and_self]
/-- the chance 1 for one of so many -/
def unit (k a : Nat) : List Rat := (List.range k).map fun i => if i = a then 1 else 0
theorem unit_len {k a : Nat} : (unit k a).length = k := by simp [unit]
theorem unit_nonneg {k a : Nat} : ∀ q ∈ unit k a, 0 ≤ q := by
  intro q hq
  obtain ⟨i, _, rfl⟩ := List.mem_map.mp hq
  split <;> decide
theorem sz_unit {k a : Nat} : Szs 1 (unit k a) := by
  intro q hq
  obtain ⟨i, _, rfl⟩ := List.mem_map.mp hq
  split
  · exact sz_1 (by omega)
  · exact sz_0 (by omega)
theorem unit_sum {k a : Nat} (h : a < k) : (unit k a).sum = 1 := by
  have key : ∀ k, (unit k a).sum = if a < k then 1 else 0 := by
    intro k
    induction k with
    | zero => rfl
    | succ k ih =>
      have : unit (k + 1) a = unit k a ++ [if k = a then 1 else 0] := by simp [unit, List.range_succ]
      rw [this, sum_app, ih]
      by_cases h1 : a < k
      · have h2 : ¬ k = a := by omega
        have h3 : a < k + 1 := by omega
        simp [h1, h2, h3, Rat.add_zero]
      · by_cases h2 : k = a
        · subst h2; simp [Rat.zero_add]
        · have h3 : ¬ a < k + 1 := by omega
          simp [h1, h2, h3, Rat.add_zero]
  rw [key, if_pos h]
theorem unit_ch {k a : Nat} (h : a < k) : Ch (unit k a) := ⟨unit_nonneg, unit_sum h⟩
theorem int_bl {β : Type} {m : Bool} {p : Bool} {S : Store} {k : D → Store → β} {x : Nat → Store → β} {z : β} : (biD m .int [.bl p] S).cps k x z = k (.int (if p = true then 1 else 0)) S := cps_of rfl
theorem pure_gen {b : Nat} {S : Store} {u v : D} {ds : List D} {rs : List Nat} (hv : SqD v ds) (hu : SqD u (rs.map fun a : Nat => D.int (a : Nat))) (hd : ds.length ≤ 1000) (hr : rs.length ≤ 1000) :
    run false 2 4 (.cons (.ret (.bi false .tuple (.cons (.lc false [2] (.bi false .tuple (.cons (.lc false [3] (.tup (.cons (.bi false .int (.cons (.cmp .eq (.var 3) (.var 2)) .nil)) (.cons (.cst (.int 1)) .nil))) (.one 3) (.rng1 (.bi false .len (.cons (.var 0) .nil))) .none) .nil)) (.one 2) (.exp (.var 1)) .none) .nil))) .nil) b [v, u] S
      = .ok (mdl (rs.map (unit ds.length))) S := by
  refine run_eq rfl mdl_pure ?_
  simp_arith only [itr_c hu]
  refine lc_map (fun a : Nat => rowD (unit ds.length a)) rfl (line_le (by omega)) ?_ ?_
  · intro a ha
    simp_arith only [wipe_1, List.set_cons_succ, List.set_cons_zero, len_c hv, rng1_c (show ds.length ≤ 1000000 by omega)]
    refine lc_map (fun i : Nat => fr (if i = a then 1 else 0)) rfl (by simp; exact line_le (by omega)) ?_ ?_
    · intro i hi
      simp_arith only [wipe_1, List.set_cons_succ, List.set_cons_zero, int_bl]
      by_cases h : i = a
      · subst h; simp; rfl
      · have : ¬ (i : Int) = (a : Int) := by omega
        simp [h, this]; rfl
    · rw [newL_c (by simp; exact line_le (by omega))]
      simp_arith only
      unfold rowD unit
      rw [List.map_map]
      rfl
  · rw [newL_c (by simp; exact line_le (by omega))]
    simp_arith only
    unfold mdl
    rw [List.map_map]
    rfl
theorem szs_mono {n m : Nat} {l : List Rat} (h : Szs n l) (hl : n ≤ m) : Szs m l := fun q hq => (h q hq).mono hl
end Mn
namespace Lb
open PySem Mn
theorem law_pure_c {b : Nat} {S : Store} {u v : D} {ds : List D} {rs : List Nat} (hv : SqD v ds) (hu : SqD u (rs.map fun a : Nat => D.int (a : Nat))) (hd : ds.length ≤ 1000) (hr : rs.length ≤ 1000) :
    d__law_pure b [v, u] S = .ok (mdl (rs.map (unit ds.length))) S := pure_gen hv hu hd hr
theorem mixed_of_c {b : Nat} {S : Store} {u v : D} {ds : List D} {rs : List Nat} (hv : SqD v ds) (hu : SqD u (rs.map fun a : Nat => D.int (a : Nat))) (hd : ds.length ≤ 1000) (hr : rs.length ≤ 1000) :
    d_mixed_of b [v, u] S = .ok (mdl (rs.map (unit ds.length))) S := pure_gen hv hu hd hr
end Lb
namespace Mn
/-- what is drawn for a rule -/
def VX (w a : Nat) (x : List (List Rat)) : Prop := x.length = w ∧ ∀ r ∈ x, r.length = a ∧ Ch r
end Mn
namespace Lb
open PySem Mn
theorem law_mixed_w {b n k : Nat} {S : Store} {ns : List Int} {r0 : List Rat} {rest : List D} {ls : List D} (hns : ns.length ≤ 63) (h : St n k S) (hk : k ≤ 800000) (h0 : r0.length ≤ 20) (hl1 : 0 < ls.length) (hl : ls.length ≤ 8) :
    (d__law_mixed b [scriptD ns, .ref n, .tup (rowD r0 :: rest), .tup ls] S).W fun r S' => ∃ x, r = mdl x ∧ VX r0.length ls.length x ∧ (∀ q ∈ x, Szs 7 q) ∧ Dr n (k + 500) S S' := by
  refine run_W rfl ?_
  unfold b__law_mixed
  simp_arith only
  refine W_then (draw_w (m := 2) hns h (by omega) (by omega)) ?_
  rintro _ S1 ⟨i, rfl, hi, hd1⟩
  have hSlen : S1.length = S.length := hd1.len
  simp_arith only
  split
  · unfold rowD
    simp_arith only
    refine draws_w (n := n) (k := k + 2) (m := ls.length) (ns := ns) hns hd1.st (by omega) hl1 (fun a _ => ?_) (fun ws S' hwl hw hd => ?_)
    · simp_arith only [wipe_1, List.set_cons_succ, List.set_cons_zero]
      exact fun _ _ => rfl
    · rw [newL_c (by simp; exact line_le (by omega))]
      simp_arith only [law_pure_c (b := S.length) (.inl rfl) (.inr rfl) (show ls.length ≤ 1000 by omega) (show ws.length ≤ 1000 by omega)]
      have hD := (hd1.trans hd).mono (show k + 2 + 2 * r0.length ≤ k + 500 by omega)
      refine ⟨mdl_pure, _, rfl, ⟨by simp [hwl], fun r hr => ?_⟩, fun q hq => ?_, by rw [List.take_of_length_le (by rw [hD.len]; exact Nat.le_refl _)]; exact hD⟩
      · obtain ⟨a, ha, rfl⟩ := List.mem_map.mp hr
        exact ⟨unit_len, unit_ch (hw a ha)⟩
      · obtain ⟨a, ha, rfl⟩ := List.mem_map.mp hq
        exact szs_mono sz_unit (by omega)
  · unfold rowD
    simp_arith only
    refine lc_wp (fun i acc S' => ∃ x : List (List Rat), acc = x.map rowD ∧ x.length = i ∧ (∀ r ∈ x, (r.length = ls.length ∧ Ch r) ∧ Szs 7 r) ∧ Dr n (k + 2 + 20 * i) S S') (fun _ _ _ _ => rfl) (line_le (by omega)) ⟨[], rfl, rfl, fun _ h => by simp at h, hd1⟩ ?_ ?_
    · rintro i a acc S' hi hl' ⟨x, rfl, hx, hr, hd⟩
      have hlt := (List.getElem?_eq_some_iff.mp hi).1
      simp_arith only [wipe_1, List.set_cons_succ, List.set_cons_zero]
      refine W_then (law_chances_w hns hd.st (by omega) hl1 hl) ?_
      rintro _ S'' ⟨l, rfl, h1, h2, h3, h4⟩
      refine ⟨x ++ [l], by simp, by simp [hx], fun r hr' => ?_, (hd.trans h4).mono (by omega)⟩
      rcases List.mem_append.mp hr' with h | h
      · exact hr r h
      · rw [List.mem_singleton.mp h]; exact ⟨⟨h1, h2⟩, h3⟩
    · rintro ds S' hdl ⟨x, rfl, hx, hr, hd⟩
      have hD := hd.mono (show k + 2 + 20 * r0.length ≤ k + 500 by omega)
      rw [newL_c (by simp; exact line_le (by omega))]
      simp_arith only
      exact ⟨mdl_pure, x, rfl, ⟨hx, fun r h => (hr r h).1⟩, fun q h => (hr q h).2, by rw [List.take_of_length_le (by rw [hD.len]; exact Nat.le_refl _)]; exact hD⟩
end Lb
namespace Mn
/-- losses -/
structure VL (s : Nat) (l : List (List Int)) : Prop where
  n1 : 1 ≤ l.length
  n3 : l.length ≤ 3
  w : ∀ r ∈ l, r.length = s
  b : ∀ r ∈ l, ∀ i ∈ r, -99 ≤ i ∧ i ≤ 99
end Mn
namespace Lb
open PySem Mn
theorem law_losses_w {b n k : Nat} {S : Store} {ns : List Int} {ms : List D} (hns : ns.length ≤ 63) (h : St n k S) (hk : k ≤ 800000) (hm : ms.length ≤ 8) :
    (d__law_losses b [scriptD ns, .ref n, .tup ms] S).W fun r S' => ∃ l, r = losD l ∧ VL ms.length l ∧ (∀ r ∈ l, ∀ i ∈ r, -4 ≤ i ∧ i ≤ 4) ∧ Dr n (k + 100) S S' := by
  refine run_W rfl ?_
  unfold b__law_losses
  simp_arith only
  rw [newL_r (by simp)]
  have hlt := h.lt
  have hst : St n k (S ++ [Cell.lst []]) := by
    obtain ⟨st, h1, h2⟩ := h
    exact ⟨st, by rw [List.getElem?_append_left hlt]; exact h1, h2⟩
  refine W_then (draw_w (m := 3) hns hst (by omega) (by omega)) ?_
  rintro _ S1 ⟨i, rfl, hi, ⟨⟨c, rfl⟩, hst1⟩⟩
  rw [List.set_append_left _ _ hlt] at hst1 ⊢
  simp_arith only
  rw [show (1 : Int) + (i : Nat) = ((1 + i : Nat) : Int) by omega]
  generalize hc : 1 + i = cnt
  simp_arith only [rng1_c (show cnt ≤ 1000000 by omega)]
  refine for_wp (fun pre ρ S' => ∃ (S0 : Store) (l : List (List Int)) (o4 o5 : Option D), ρ = [some (scriptD ns), some (.ref n), some (.tup ms), some (.ref S.length), o4, o5] ∧ S' = S0 ++ [Cell.lst (l.map intsD)] ∧ Dr n (k + 2 + 20 * pre.length) S S0 ∧ l.length = pre.length ∧ (∀ r ∈ l, r.length = ms.length) ∧ ∀ r ∈ l, ∀ i ∈ r, -4 ≤ i ∧ i ≤ 4) (fun _ _ _ _ => rfl) ?_ ?_ ?_
  · refine ⟨S.set n c, [], none, none, rfl, rfl, ⟨⟨c, rfl⟩, ?_⟩, rfl, fun _ h => by simp at h, fun _ h => by simp at h⟩
    obtain ⟨st, h1, h2, h3⟩ := hst1
    rw [List.getElem?_append_left (by simpa using hlt)] at h1
    exact ⟨st, h1, h2, by simp; omega⟩
  · rintro pre a post e ρ S' ⟨S0, l, o4, o5, rfl, rfl, hd, hl, hr, hb⟩
    obtain ⟨rfl, hlt2⟩ := range_split e
    have hS0 : S0.length = S.length := hd.len
    have hst0 : St n (k + 2 + 20 * pre.length) (S0 ++ [Cell.lst (l.map intsD)]) := by
      obtain ⟨st, h1, h2⟩ := hd.st
      exact ⟨st, by rw [List.getElem?_append_left (by omega)]; exact h1, h2⟩
    have hcell : ∀ {T : Store}, T.length = S.length → (T ++ [Cell.lst (l.map intsD)])[S.length]? = some (.lst (l.map intsD)) := fun {T} h => by rw [← h]; simp
    simp_arith only [lst_ref (hcell hS0), Option.isSome_some]
    refine lcD_wp (fun i acc S' => ∃ (T : Store) (x : List Int), acc = x.map D.int ∧ x.length = i ∧ (∀ v ∈ x, -4 ≤ v ∧ v ≤ 4) ∧ S' = T ++ [Cell.lst (l.map intsD)] ∧ Dr n (k + 2 + 20 * pre.length + 2 * i) S T) (fun _ _ _ _ => rfl) (line_le (by omega)) ⟨S0, [], rfl, rfl, fun _ h => by simp at h, rfl, hd⟩ ?_ ?_
    · rintro i a acc S' hi hl' ⟨T, x, rfl, hx, hxb, rfl, hT⟩
      have hTl : T.length = S.length := hT.len
      have hlt3 := (List.getElem?_eq_some_iff.mp hi).1
      have hstT : St n (k + 2 + 20 * pre.length + 2 * i) (T ++ [Cell.lst (l.map intsD)]) := by
        obtain ⟨st, h1, h2⟩ := hT.st
        exact ⟨st, by rw [List.getElem?_append_left (by omega)]; exact h1, h2⟩
      simp_arith only [wipe_1, List.set_cons_succ, List.set_cons_zero]
      refine W_then (draw_w (m := 9) hns hstT (by omega) (by omega)) ?_
      rintro _ S'' ⟨r, rfl, hr9, ⟨⟨c', rfl⟩, hst2⟩⟩
      rw [List.set_append_left _ _ (by omega)] at hst2 ⊢
      simp_arith only
      refine ⟨T.set n c', x ++ [(r : Int) - 4], by simp, by simp [hx], fun v hv => ?_, rfl, ⟨?_, ?_⟩⟩
      · rcases List.mem_append.mp hv with h | h
        · exact hxb v h
        · rw [List.mem_singleton.mp h]; omega
      · obtain ⟨⟨c0, rfl⟩, _⟩ := hT
        exact ⟨c', List.set_set ..⟩
      · obtain ⟨st, h1, h2, h3⟩ := hst2
        rw [List.getElem?_append_left (by simp; omega)] at h1
        exact ⟨st, h1, h2, by omega⟩
    · rintro ds S' hdl ⟨T, x, rfl, hx, hxb, rfl, hT⟩
      have hTl : T.length = S.length := hT.len
      rw [newL_c (by simp; exact line_le (by omega))]
      have happ := app_at (b := S.length) (m := false) (d := intsD x) (hcell hTl) (by simp; exact Nat.lt_of_lt_of_le (show l.length < 10 by omega) (by decide)) (fun h => absurd h (Nat.lt_irrefl _))
      simp_arith only
      rw [show D.tup (x.map D.int) = intsD x from rfl, happ]
      simp_arith only
      refine ⟨T, l ++ [x], _, _, rfl, ?_, hT.mono (by simp; omega), by simp [hl], fun r h => ?_, fun r h => ?_⟩
      · rw [← hTl]; simp
      · rcases List.mem_append.mp h with h | h
        · exact hr r h
        · rw [List.mem_singleton.mp h]; exact hx
      · rcases List.mem_append.mp h with h | h
        · exact hb r h
        · rw [List.mem_singleton.mp h]; exact hxb
  · rintro ρ S' ⟨S0, l, o4, o5, rfl, rfl, hd, hl, hr, hb⟩
    have hS0 : S0.length = S.length := hd.len
    have hcell : (S0 ++ [Cell.lst (l.map intsD)])[S.length]? = some (.lst (l.map intsD)) := by rw [← hS0]; simp
    have htup : biD false .tuple [.ref S.length] (S0 ++ [Cell.lst (l.map intsD)]) = .ok (losD l) (S0 ++ [Cell.lst (l.map intsD)]) := by
      show (match lstOf _ (D.ref S.length) with | some ds => Res.ok (D.tup ds) _ | none => .stuck) = _
      rw [lst_ref hcell]; rfl
    rw [List.length_range] at hl
    simp_arith only [htup]
    refine ⟨losD_pure, l, rfl, ⟨by omega, by omega, hr, fun r h i hi => by have := hb r h i hi; omega⟩, hb, ?_⟩
    rw [← hS0, take_app]
    exact hd.mono (by rw [List.length_range]; omega)
end Lb

/-! Plain: a drawn model. -/
local macro_rules
  | `(tactic| simp_arith only [$args,*]) => `(tactic| simp only [↓Mn.tcaseB_bl, ↓Mn.cps_ok, ↓Mn.cps_exc, ↓Mn.cps_stuck, ↓Mn.bind_is, ↓Mn.st_is, ↓Mn.only_is, ↓Mn.cps_cps, ↓Mn.bind_cps, ↓Mn.tcase_some, ↓Mn.cps_ite, ↓Mn.rdV_some, ↓Mn.ev_var, ↓Mn.ev_frz, ↓Mn.ev_cst, ↓Mn.ev_tup, ↓Mn.ev_lst, ↓Mn.ev_bin, ↓Mn.ev_neg, ↓Mn.ev_not, ↓Mn.ev_cmp, ↓Mn.ev_chain, ↓Mn.ev_ite, ↓Mn.ev_and, ↓Mn.ev_or, ↓Mn.ev_a1, ↓Mn.ev_r1, ↓Mn.ev_a2, ↓Mn.ev_r2, ↓Mn.ev_ix, ↓Mn.ev_sl, ↓Mn.ev_rev, ↓Mn.ev_call, ↓Mn.ev_bi, ↓Mn.ev_isi, ↓Mn.ev_bm, ↓Mn.ev_lc, ↓Mn.ev_nil, ↓Mn.ev_cons, ↓Mn.ev_o0, ↓Mn.ev_o1, ↓Mn.ev_iexp, ↓Mn.ev_irng1, ↓Mn.ev_irng2, ↓Mn.ev_ienum, ↓Mn.ev_izip, ↓Mn.tcase_bl, ↓Mn.tcase_int, ↓Mn.tcase_non, ↓Mn.tcase_tup, ↓Mn.tcase_lst, ↓Mn.tcase_scr, ↓Mn.bin_add_c, ↓Mn.bin_sub_c, ↓Mn.neg_int_c, ↓Mn.cmp_lt_c, ↓Mn.cmp_le_c, ↓Mn.cmp_gt_c, ↓Mn.cmp_ge_c, ↓Mn.cmp_eqi_c, ↓Mn.cmp_nei_c, ↓Mn.itr_tup_c, ↓Mn.itr_lst_c, ↓Mn.itr_scr_c, ↓Mn.len_seq_c, ↓Mn.len_lst_c, ↓Mn.len_scr_c, ↓Mn.bi_abs_c, ↓Mn.ofO_some_c, ↓Mn.newT_0_c, ↓Mn.newL_0_c, ↓Mn.newT_1_c, ↓Mn.newL_1_c, ↓Mn.newT_2_c, ↓Mn.newL_2_c, ↓Mn.newT_3_c, ↓Mn.newL_3_c, ↓Mn.newT_4_c, ↓Mn.newL_4_c, ↓Mn.newT_5_c, ↓Mn.newL_5_c, ↓Mn.newT_6_c, ↓Mn.newL_6_c, ↓Mn.newT_7_c, ↓Mn.newL_7_c, ↓Mn.newT_8_c, ↓Mn.newL_8_c, ↓Mn.newT_9_c, ↓Mn.newL_9_c, ↓Mn.isi_non_int_c, ↓Mn.isi_non_bool_c, ↓Mn.isi_non_str_c, ↓Mn.isi_non_tuple_c, ↓Mn.isi_non_list_c, ↓Mn.isi_bl_int_c, ↓Mn.isi_bl_bool_c, ↓Mn.isi_bl_str_c, ↓Mn.isi_bl_tuple_c, ↓Mn.isi_bl_list_c, ↓Mn.isi_int_int_c, ↓Mn.isi_int_bool_c, ↓Mn.isi_int_str_c, ↓Mn.isi_int_tuple_c, ↓Mn.isi_int_list_c, ↓Mn.isi_str_int_c, ↓Mn.isi_str_bool_c, ↓Mn.isi_str_str_c, ↓Mn.isi_str_tuple_c, ↓Mn.isi_str_list_c, ↓Mn.isi_tup_int_c, ↓Mn.isi_tup_bool_c, ↓Mn.isi_tup_str_c, ↓Mn.isi_tup_tuple_c, ↓Mn.isi_tup_list_c, ↓Mn.isi_lst_int_c, ↓Mn.isi_lst_bool_c, ↓Mn.isi_lst_str_c, ↓Mn.isi_lst_tuple_c, ↓Mn.isi_lst_list_c, ↓Mn.ix_t0_c, ↓Mn.ix_t1_c, ↓Mn.ix_l0_c, ↓Mn.ix_l1_c, ↓Mn.wp_nx, ↓Mn.wp_rt, ↓Mn.wp_exc, ↓Mn.wp_stuck, ↓Mn.wp_ite, ↓Mn.wpV_zero, ↓Mn.wpV_succ, ↓Mn.wpB_one, ↓Mn.wpB_2, ↓Mn.wpB_3, ↓Mn.wp_nil, ↓Mn.wp_cons, ↓Mn.wp_asg, ↓Mn.wp_put, ↓Mn.wp_asgT, ↓Mn.wp_tupS, ↓Mn.wp_ts0, ↓Mn.wp_tsV, ↓Mn.wp_tsS, ↓Mn.wp_par, ↓Mn.wp_expr, ↓Mn.wp_ret, ↓Mn.wp_if, ↓Mn.wp_for, ↓Mn.wp_while, ↓Mn.wp_rais, ↓Mn.wp_try, ↓Mn.hnd_cons, ↓Mn.enum_c, ↓Mn.enumL_c, ↓Mn.tuple_c, ↓Mn.tupleT_c, ↓Mn.fr_ix0, ↓Mn.fr_ix1, Mn.truD_bl, Mn.truD_int, Mn.truD_non, Mn.truD_tup, Mn.truD_lst, Mn.truD_scr, Mn.tru1_bl, Mn.tru1_int, Mn.shaped_int, Mn.eqv_int, Mn.sq_tup, Mn.sq_lst, Mn.sq_scr, Mn.lst_lst, Mn.at_0, Mn.at_1, Mn.take_self, Mn.take_app, List.getElem?_cons_zero, List.getElem?_cons_succ, ↓reduceIte, List.map_cons, List.map_nil, List.replicate, List.append, List.cons_append, List.nil_append, List.length_cons, List.length_nil, Nat.reduceSub, Nat.reduceAdd, Nat.sub_self, Bool.false_eq_true, Bool.not_true, Bool.not_false, decide_true, decide_false, List.length_map, bne_self_eq_false, and_true, true_and, and_self, $args,*])
  | `(tactic| simp_arith only) => `(tactic| simp only [↓Mn.tcaseB_bl, ↓Mn.cps_ok, ↓Mn.cps_exc, ↓Mn.cps_stuck, ↓Mn.bind_is, ↓Mn.st_is, ↓Mn.only_is, ↓Mn.cps_cps, ↓Mn.bind_cps, ↓Mn.tcase_some, ↓Mn.cps_ite, ↓Mn.rdV_some, ↓Mn.ev_var, ↓Mn.ev_frz, ↓Mn.ev_cst, ↓Mn.ev_tup, ↓Mn.ev_lst, ↓Mn.ev_bin, ↓Mn.ev_neg, ↓Mn.ev_not, ↓Mn.ev_cmp, ↓Mn.ev_chain, ↓Mn.ev_ite, ↓Mn.ev_and, ↓Mn.ev_or, ↓Mn.ev_a1, ↓Mn.ev_r1, ↓Mn.ev_a2, ↓Mn.ev_r2, ↓Mn.ev_ix, ↓Mn.ev_sl, ↓Mn.ev_rev, ↓Mn.ev_call, ↓Mn.ev_bi, ↓Mn.ev_isi, ↓Mn.ev_bm, ↓Mn.ev_lc, ↓Mn.ev_nil, ↓Mn.ev_cons, ↓Mn.ev_o0, ↓Mn.ev_o1, ↓Mn.ev_iexp, ↓Mn.ev_irng1, ↓Mn.ev_irng2, ↓Mn.ev_ienum, ↓Mn.ev_izip, ↓Mn.tcase_bl, ↓Mn.tcase_int, ↓Mn.tcase_non, ↓Mn.tcase_tup, ↓Mn.tcase_lst, ↓Mn.tcase_scr, ↓Mn.bin_add_c, ↓Mn.bin_sub_c, ↓Mn.neg_int_c, ↓Mn.cmp_lt_c, ↓Mn.cmp_le_c, ↓Mn.cmp_gt_c, ↓Mn.cmp_ge_c, ↓Mn.cmp_eqi_c, ↓Mn.cmp_nei_c, ↓Mn.itr_tup_c, ↓Mn.itr_lst_c, ↓Mn.itr_scr_c, ↓Mn.len_seq_c, ↓Mn.len_lst_c, ↓Mn.len_scr_c, ↓Mn.bi_abs_c, ↓Mn.ofO_some_c, ↓Mn.newT_0_c, ↓Mn.newL_0_c, ↓Mn.newT_1_c, ↓Mn.newL_1_c, ↓Mn.newT_2_c, ↓Mn.newL_2_c, ↓Mn.newT_3_c, ↓Mn.newL_3_c, ↓Mn.newT_4_c, ↓Mn.newL_4_c, ↓Mn.newT_5_c, ↓Mn.newL_5_c, ↓Mn.newT_6_c, ↓Mn.newL_6_c, ↓Mn.newT_7_c, ↓Mn.newL_7_c, ↓Mn.newT_8_c, ↓Mn.newL_8_c, ↓Mn.newT_9_c, ↓Mn.newL_9_c, ↓Mn.isi_non_int_c, ↓Mn.isi_non_bool_c, ↓Mn.isi_non_str_c, ↓Mn.isi_non_tuple_c, ↓Mn.isi_non_list_c, ↓Mn.isi_bl_int_c, ↓Mn.isi_bl_bool_c, ↓Mn.isi_bl_str_c, ↓Mn.isi_bl_tuple_c, ↓Mn.isi_bl_list_c, ↓Mn.isi_int_int_c, ↓Mn.isi_int_bool_c, ↓Mn.isi_int_str_c, ↓Mn.isi_int_tuple_c, ↓Mn.isi_int_list_c, ↓Mn.isi_str_int_c, ↓Mn.isi_str_bool_c, ↓Mn.isi_str_str_c, ↓Mn.isi_str_tuple_c, ↓Mn.isi_str_list_c, ↓Mn.isi_tup_int_c, ↓Mn.isi_tup_bool_c, ↓Mn.isi_tup_str_c, ↓Mn.isi_tup_tuple_c, ↓Mn.isi_tup_list_c, ↓Mn.isi_lst_int_c, ↓Mn.isi_lst_bool_c, ↓Mn.isi_lst_str_c, ↓Mn.isi_lst_tuple_c, ↓Mn.isi_lst_list_c, ↓Mn.ix_t0_c, ↓Mn.ix_t1_c, ↓Mn.ix_l0_c, ↓Mn.ix_l1_c, ↓Mn.wp_nx, ↓Mn.wp_rt, ↓Mn.wp_exc, ↓Mn.wp_stuck, ↓Mn.wp_ite, ↓Mn.wpV_zero, ↓Mn.wpV_succ, ↓Mn.wpB_one, ↓Mn.wpB_2, ↓Mn.wpB_3, ↓Mn.wp_nil, ↓Mn.wp_cons, ↓Mn.wp_asg, ↓Mn.wp_put, ↓Mn.wp_asgT, ↓Mn.wp_tupS, ↓Mn.wp_ts0, ↓Mn.wp_tsV, ↓Mn.wp_tsS, ↓Mn.wp_par, ↓Mn.wp_expr, ↓Mn.wp_ret, ↓Mn.wp_if, ↓Mn.wp_for, ↓Mn.wp_while, ↓Mn.wp_rais, ↓Mn.wp_try, ↓Mn.hnd_cons, ↓Mn.enum_c, ↓Mn.enumL_c, ↓Mn.tuple_c, ↓Mn.tupleT_c, ↓Mn.fr_ix0, ↓Mn.fr_ix1, Mn.truD_bl, Mn.truD_int, Mn.truD_non, Mn.truD_tup, Mn.truD_lst, Mn.truD_scr, Mn.tru1_bl, Mn.tru1_int, Mn.shaped_int, Mn.eqv_int, Mn.sq_tup, Mn.sq_lst, Mn.sq_scr, Mn.lst_lst, Mn.at_0, Mn.at_1, Mn.take_self, Mn.take_app, List.getElem?_cons_zero, List.getElem?_cons_succ, ↓reduceIte, List.map_cons, List.map_nil, List.replicate, List.append, List.cons_append, List.nil_append, List.length_cons, List.length_nil, Nat.reduceSub, Nat.reduceAdd, Nat.sub_self, Bool.false_eq_true, Bool.not_true, Bool.not_false, decide_true, decide_false, List.length_map, bne_self_eq_false, and_true, true_and, and_self])
namespace Mn
open PySem
def refsN (B k : Nat) : List D := (List.range k).map fun j => D.ref (B + 1 + j)
def rowsC (rows : List (List Int)) : Store := rows.map fun ws => Cell.lst (ws.map D.int)
/-- what stood before, then the table's cells -/
def TbC (S : Store) (rows : List (List Int)) : Store := S ++ Cell.lst (refsN S.length rows.length) :: rowsC rows
section
variable {S : Store} {n : Nat} {rows : List (List Int)}
theorem tb_len : (TbC S rows).length = S.length + 1 + rows.length := by unfold TbC rowsC; simp; omega
theorem tb_old (hn : n < S.length) : (TbC S rows)[n]? = S[n]? := by
  unfold TbC
  rw [List.getElem?_append_left hn]
theorem tb_set (hn : n < S.length) {c : Cell} : (TbC S rows).set n c = TbC (S.set n c) rows := by
  unfold TbC
  rw [List.set_append_left _ _ hn, List.length_set]
theorem tb_tab : (TbC S rows)[S.length]? = some (.lst (refsN S.length rows.length)) := by
  unfold TbC
  rw [List.getElem?_append_right (Nat.le_refl _)]
  simp
theorem tb_row {j : Nat} {ws : List Int} (h : rows[j]? = some ws) : (TbC S rows)[S.length + 1 + j]? = some (.lst (ws.map D.int)) := by
  unfold TbC
  rw [List.getElem?_append_right (by omega)]
  rw [show S.length + 1 + j - S.length = j + 1 by omega, List.getElem?_cons_succ]
  unfold rowsC
  rw [List.getElem?_map, h]
  rfl
theorem tb_push {ws : List Int} : (TbC S rows ++ [Cell.lst (ws.map D.int)]).set S.length (.lst (refsN S.length rows.length ++ [.ref (S.length + 1 + rows.length)])) = TbC S (rows ++ [ws]) := by
  unfold TbC
  rw [List.append_assoc, List.set_append_right _ _ (Nat.le_refl _)]
  simp only [Nat.sub_self, List.cons_append, List.set_cons_zero, List.length_append, List.length_cons, List.length_nil]
  congr 1
  unfold refsN rowsC
  simp [List.range_succ]
theorem tb_setrow {j : Nat} {ws : List Int} : (TbC S rows).set (S.length + 1 + j) (.lst (ws.map D.int)) = TbC S (rows.set j ws) := by
  unfold TbC
  rw [List.set_append_right _ _ (by omega)]
  rw [show S.length + 1 + j - S.length = j + 1 by omega, List.set_cons_succ]
  unfold rowsC
  simp
theorem tb_take : (TbC S rows).take S.length = S := by
  unfold TbC
  simp
theorem refsN_get {B k j : Nat} (h : j < k) : (refsN B k)[j]? = some (.ref (B + 1 + j)) := by
  unfold refsN
  rw [List.getElem?_map, List.getElem?_range h]
  rfl
end
theorem resI {S : Store} {k : Nat} {ws : List Int} {m : Nat} (h : S[k]? = some (.lst (ws.map D.int))) : resD S (m + 2) (.ref k) = some (.lst (ws.map D.int)) := by
  have hp : mapO (resD S (m + 1)) (ws.map D.int) = some (ws.map D.int) := by
    clear h
    induction ws with
    | nil => rfl
    | cons w r ih =>
      have h1 : resD S (m + 1) (.int w) = some (.int w) := rfl
      simp only [List.map_cons, mapO, h1, ih]
  unfold resD
  rw [if_neg (by simp [D.pure])]
  simp only [h, hp]
  rfl
/-- a list of rows that stand in cells, against the empty list -/
theorem cmp_eq_refs {S : Store} {ks : List Nat} (h : ∀ k ∈ ks, ∃ ws : List Int, S[k]? = some (.lst (ws.map D.int))) : cmpD .eq (.lst (ks.map D.ref)) (.lst []) S = .ok (.bl ks.isEmpty) S := by
  cases ks with
  | nil => rfl
  | cons k r =>
    have hm : ∀ {l : List Nat}, (∀ k ∈ l, ∃ ws : List Int, S[k]? = some (.lst (ws.map D.int))) → ∃ ds, mapO (resD S 4) (l.map D.ref) = some ds ∧ ds.length = l.length ∧ ds.all (nest 1) = true := by
      intro l
      induction l with
      | nil => intro _; exact ⟨[], rfl, rfl, rfl⟩
      | cons a l ih =>
        intro hl
        obtain ⟨ws, h1⟩ := hl a List.mem_cons_self
        obtain ⟨ds, h2, h3, h4⟩ := ih fun k hk => hl k (List.mem_cons_of_mem _ hk)
        refine ⟨.lst (ws.map D.int) :: ds, ?_, by simp [h3], ?_⟩
        · simp only [List.map_cons, mapO, resI (m := 2) h1, h2]
        · rw [List.all_cons, h4, Bool.and_true]
          show (ws.map D.int).all (nest 0) = true
          rw [List.all_map]
          exact List.all_eq_true.mpr fun w _ => rfl
    obtain ⟨ds, h1, h2, h3⟩ := hm h
    have hp : pyS S (.lst ((k :: r).map D.ref)) = some (.list (D.pys ds)) := by
      unfold pyS resD
      rw [if_neg (by simp [D.pure, D.pures])]
      simp only [h1]
      rfl
    show (match pyS S (.lst ((k :: r).map D.ref)), pyS S (.lst []) with
      | some a, some b => if SeqAt.shaped a && SeqAt.shaped b then Res.ok (D.bl (PyData.eqv a b)) S else .stuck
      | _, _ => .stuck) = _
    rw [hp, pyS_pure rfl]
    simp only
    have hs := nest_shaped (n := 2) (d := .lst ds) h3 (by decide)
    have hs' : SeqAt.shaped (.list (D.pys ds)) = true := hs
    rw [hs']
    cases ds with
    | nil => simp at h2
    | cons d ds => rfl
/-- a model's width -/
def wd (m : List (List Rat)) : Nat := (m.headD []).length
structure VM (m : List (List Rat)) : Prop where
  n2 : 2 ≤ m.length
  n3 : m.length ≤ 3
  ch : ∀ r ∈ m, Ch r
  w : ∀ r ∈ m, r.length = wd m
  w1 : 1 ≤ wd m
  w6 : wd m ≤ 6
  pos : ∀ j, j < wd m → ∃ r ∈ m, 0 < r.getD j 0
def RowOk (many : Nat) (ws : List Int) : Prop := ws.length = many ∧ Wt ws
theorem sum_setp {ws : List Int} {j : Nat} {v : Int} (hw : Wt ws) (hj : j < ws.length) (hv : 0 < v) : 0 < (ws.set j v).sum := by
  induction ws generalizing j with
  | nil => simp at hj
  | cons w r ih =>
    have h1 := hw w List.mem_cons_self
    have h2 := wt_sum (ws := r) fun v hv => hw v (List.mem_cons_of_mem _ hv)
    cases j with
    | zero => simp only [List.set_cons_zero, List.sum_cons]; omega
    | succ j =>
      have := ih (j := j) (fun v hv => hw v (List.mem_cons_of_mem _ hv)) (by simpa using hj)
      simp only [List.set_cons_succ, List.sum_cons]
      omega
theorem row_set {many : Nat} {ws : List Int} {j : Nat} {v : Int} (h : RowOk many ws) (hv : 0 ≤ v ∧ v ≤ 8) : RowOk many (ws.set j v) := by
  refine ⟨by rw [List.length_set]; exact h.1, fun w hw => ?_⟩
  rcases List.mem_or_eq_of_mem_set hw with h1 | rfl
  · exact h.2 w h1
  · exact hv
end Mn
namespace Lb
open PySem Mn
theorem St.tb {n k : Nat} {S : Store} {rows : List (List Int)} (h : St n k S) : St n k (TbC S rows) := by
  have hn := h.lt
  obtain ⟨st, h1, h2⟩ := h
  exact ⟨st, by rw [tb_old hn]; exact h1, h2⟩
theorem Dr.tb {n k l : Nat} {S S' : Store} {rows : List (List Int)} (h : Dr n k (TbC S rows) S') (hn : n < S.length) : ∃ T, S' = TbC T rows ∧ Dr n k S T ∧ T.length = S.length := by
  obtain ⟨⟨c, rfl⟩, st, h1, h2⟩ := h
  rw [tb_set hn] at h1 ⊢
  rw [tb_old (by simpa using hn)] at h1
  exact ⟨_, _root_.rfl, ⟨⟨c, _root_.rfl⟩, st, h1, h2⟩, by simp⟩
theorem law_model_w {b n k most : Nat} {S : Store} {ns : List Int} (hns : ns.length ≤ 63) (h : St n k S) (hk : k ≤ 800000) (h1 : 1 ≤ most) (h6 : most ≤ 6) :
    (d__law_model b [scriptD ns, .ref n, .int (most : Nat)] S).W fun r S' => ∃ m, r = mdl m ∧ VM m ∧ wd m ≤ most ∧ (∀ q ∈ m, Szs 7 q) ∧ Dr n (k + 100) S S' := by
  refine run_W rfl ?_
  unfold b__law_model
  simp_arith only
  refine W_then (draw_w (m := most) hns h (by omega) (by omega)) ?_
  rintro _ S1 ⟨i1, rfl, hi1, hd1⟩
  simp_arith only
  refine W_then (draw_w (m := 2) hns hd1.st (by omega) (by omega)) ?_
  rintro _ S2 ⟨i2, rfl, hi2, hd2⟩
  have hD2 := hd1.trans hd2
  have hS2 : S2.length = S.length := hD2.len
  have hn : n < S.length := h.lt
  simp_arith only
  rw [show (1 : Int) + (i1 : Nat) = ((1 + i1 : Nat) : Int) by omega, show (2 : Int) + (i2 : Nat) = ((2 + i2 : Nat) : Int) by omega]
  generalize hc1 : 1 + i1 = many
  generalize hc2 : 2 + i2 = states
  rw [newL_r (by simp), hS2]
  simp_arith only [rng1_c (show states ≤ 1000000 by omega), rng1_c (show many ≤ 1000000 by omega)]
  have hT0 : S2 ++ [Cell.lst []] = TbC S2 [] := rfl
  rw [hT0]
  -- the table is drawn
  refine for_wp (fun pre ρ S' => ∃ (T : Store) (rows : List (List Int)) (o4 : Option D), ρ = [some (scriptD ns), some (.ref n), some (.int (most : Nat)), some (.ref S.length), o4, none, some (.int (many : Nat)), some (.int (states : Nat)), none] ∧ S' = TbC T rows ∧ T.length = S.length ∧ Dr n (k + 4 + 12 * pre.length) S T ∧ rows.length = pre.length ∧ ∀ ws ∈ rows, RowOk many ws) (fun _ _ _ _ => rfl) ?_ ?_ ?_
  · exact ⟨S2, [], none, rfl, rfl, hS2, hD2, rfl, fun _ h => by simp at h⟩
  · rintro pre a post e ρ S' ⟨T, rows, o4, rfl, rfl, hT, hd, hl, hr⟩
    obtain ⟨rfl, hlt⟩ := range_split e
    have htab := tb_tab (S := T) (rows := rows)
    rw [hT] at htab
    simp_arith only [lst_ref htab, Option.isSome_some, rng1_c (show many ≤ 1000000 by omega)]
    refine draws_w (n := n) (k := k + 4 + 12 * pre.length) (m := 4) (ns := ns) hns hd.st.tb (by simp; omega) (by omega) (fun a _ => ?_) (fun ws S' hwl hw hd' => ?_)
    · simp_arith only [wipe_1, List.set_cons_succ, List.set_cons_zero]
      exact fun _ _ => rfl
    · rw [List.length_range] at hwl hd'
      obtain ⟨T', rfl, hd2, hT'⟩ := hd'.tb (l := 0) (by omega)
      rw [newL_r (by simp [hwl]; exact line_le (by omega)), ints_nats]
      have hrow : RowOk many (ws.map fun w : Nat => (w : Int)) := ⟨by simp [hwl], wt_nats hw (by omega)⟩
      have htab' : (TbC T' rows ++ [Cell.lst ((ws.map fun w : Nat => (w : Int)).map D.int)])[S.length]? = some (.lst (refsN S.length rows.length)) := by
        have := tb_tab (S := T') (rows := rows)
        rw [List.getElem?_append_left (by rw [tb_len]; omega), ← hT, ← hT', this]
      have happ := app_at (b := S.length) (m := false) (d := .ref (TbC T' rows).length) htab' (by simp [refsN]; exact Nat.lt_of_lt_of_le (show rows.length < 10 by omega) (by decide)) (fun h => absurd h (Nat.lt_irrefl _))
      rw [happ]
      have hpush := tb_push (S := T') (rows := rows) (ws := ws.map fun w : Nat => (w : Int))
      rw [hT', hT] at hpush
      rw [tb_len, hT', hT, hpush]
      simp_arith only
      refine ⟨T', rows ++ [ws.map fun w : Nat => (w : Int)], _, rfl, rfl, by omega, ((hd.trans hd2)).mono (by simp; omega), by simp [hl], fun r hr' => ?_⟩
      rcases List.mem_append.mp hr' with h | h
      · exact hr r h
      · rw [List.mem_singleton.mp h]; exact hrow
  rintro ρ S' ⟨T, rows, o4, rfl, rfl, hT, hd, hl, hr⟩
  rw [List.length_range] at hl hd
  have hd := hd.mono (show k + 4 + 12 * states ≤ k + 100 by omega)
  have htab : ∀ rows, (TbC T rows)[S.length]? = some (.lst (refsN S.length rows.length)) := fun rows => by rw [← hT]; exact tb_tab
  have hrowat : ∀ {rows : List (List Int)} {j : Nat} {ws : List Int}, rows[j]? = some ws → (TbC T rows)[S.length + 1 + j]? = some (.lst (ws.map D.int)) := fun h => by rw [← hT]; exact tb_row h
  have hix : ∀ (rows : List (List Int)) (j : Nat), j < rows.length → ixS (.ref S.length) (.int (j : Nat)) (TbC T rows) = .ok (.ref (S.length + 1 + j)) (TbC T rows) := fun rows j hj => by
    rw [ix_ref (htab rows), atD_nat, refsN_get hj]; rfl
  -- rows of nothing but 0
  simp_arith only [rng1_c (show states ≤ 1000000 by omega)]
  refine for_wp (fun pre ρ S' => ∃ (rows : List (List Int)) (o4 : Option D), ρ = [some (scriptD ns), some (.ref n), some (.int (most : Nat)), some (.ref S.length), o4, none, some (.int (many : Nat)), some (.int (states : Nat)), none] ∧ S' = TbC T rows ∧ rows.length = states ∧ (∀ ws ∈ rows, RowOk many ws) ∧ ∀ j ws, j < pre.length → rows[j]? = some ws → 0 < ws.sum) (fun _ _ _ _ => rfl) ?_ ?_ ?_
  · exact ⟨rows, o4, rfl, rfl, hl, hr, fun j ws hj => absurd hj (Nat.not_lt_zero _)⟩
  · rintro pre a post e ρ S' ⟨rows, o4, rfl, rfl, hl, hr, hs⟩
    obtain ⟨rfl, hlt⟩ := range_split e
    have hlt' : pre.length < rows.length := by omega
    have c0 : rows[pre.length]? = some rows[pre.length] := List.getElem?_eq_getElem hlt'
    have hw := hr _ (List.getElem_mem hlt')
    generalize hws : rows[pre.length] = ws at c0 hw
    have hu : Lsv (TbC T rows) (.ref (S.length + 1 + pre.length)) (ws.map D.int) := .inr ⟨_, rfl, hrowat c0⟩
    simp_arith only [hix rows pre.length hlt', sumS_c hu]
    by_cases hz : ws.sum = 0
    · have hsub := fun {ρ} => sub_ref (b := S.length) (k := 0) (v := .int 1) (ρ := ρ) (hrowat c0) (j := 0) (ixD_nat (k := 0) (by simp; rw [hw.1]; omega)) (fun _ => rfl)
      have e1 : (ws.map D.int).set 0 (.int 1) = (ws.set 0 1).map D.int := by simp
      have e2 := tb_setrow (S := T) (rows := rows) (j := pre.length) (ws := ws.set 0 1)
      rw [hT] at e2
      rw [e1, e2] at hsub
      simp_arith only [hz, hsub]
      have hset := sum_set1 hw.2 (by rw [hw.1]; omega) hz
      refine ⟨rows.set pre.length (ws.set 0 1), _, rfl, rfl, by simp [hl], fun r hr' => ?_, fun j w hj hjw => ?_⟩
      · rcases List.mem_or_eq_of_mem_set hr' with h | rfl
        · exact hr r h
        · exact row_set hw (by decide)
      · by_cases hji : j = pre.length
        · subst hji
          rw [List.getElem?_set_self hlt'] at hjw
          cases hjw
          exact hset.2
        · rw [List.getElem?_set_ne (Ne.symm hji)] at hjw
          exact hs j w (by simp at hj; omega) hjw
    · simp_arith only [hz]
      refine ⟨rows, _, rfl, rfl, hl, hr, fun j w hj hjw => ?_⟩
      by_cases hji : j = pre.length
      · subst hji
        rw [c0] at hjw
        cases hjw
        have := wt_sum hw.2
        omega
      · exact hs j w (by simp at hj; omega) hjw
  clear hl hr rows
  rintro ρ S' ⟨rows, o4, rfl, rfl, hl, hr, hs⟩
  rw [List.length_range] at hs
  have hs' : ∀ ws ∈ rows, 0 < ws.sum := fun ws hw => by
    obtain ⟨j, hj⟩ := List.getElem?_of_mem hw
    exact hs j ws (by have := (List.getElem?_eq_some_iff.mp hj).1; omega) hj
  -- columns of nothing but 0
  simp_arith only [rng1_c (show many ≤ 1000000 by omega)]
  refine for_wp (fun pre ρ S' => ∃ (rows : List (List Int)) (o5 : Option D), ρ = [some (scriptD ns), some (.ref n), some (.int (most : Nat)), some (.ref S.length), o4, o5, some (.int (many : Nat)), some (.int (states : Nat)), none] ∧ S' = TbC T rows ∧ rows.length = states ∧ (∀ ws ∈ rows, RowOk many ws ∧ 0 < ws.sum) ∧ ∀ j, j < pre.length → ∃ ws ∈ rows, 0 < ws.getD j 0) (fun _ _ _ _ => rfl) ?_ ?_ ?_
  · exact ⟨rows, none, rfl, rfl, hl, fun ws h => ⟨hr ws h, hs' ws h⟩, fun j hj => absurd hj (Nat.not_lt_zero _)⟩
  · clear hl hr hs hs' rows
    rintro pre a post e ρ S' ⟨rows, o5, rfl, rfl, hl, hr, hs⟩
    obtain ⟨rfl, hlt⟩ := range_split e
    simp_arith only [itr_ref (htab rows)]
    unfold refsN
    refine lc_if (fun j : Nat => decide (0 < (rows.getD j []).getD pre.length 0)) (fun j : Nat => D.ref (S.length + 1 + j)) (stays_self (htab rows)) (by simp; exact line_le (by omega)) ?_ ?_
    · intro j hj
      have hj : j < rows.length := List.mem_range.mp hj
      have c0 : rows[j]? = some rows[j] := List.getElem?_eq_getElem hj
      have hw := (hr _ (List.getElem_mem hj)).1
      have hlw : pre.length < rows[j].length := by rw [hw.1]; exact hlt
      have hat : ixS (.ref (S.length + 1 + j)) (.int (pre.length : Nat)) (TbC T rows) = .ok (.int rows[j][pre.length]) (TbC T rows) := by
        rw [ix_ref (hrowat c0), atD_nat, List.getElem?_map, List.getElem?_eq_getElem hlw]; rfl
      have hg : (rows.getD j []).getD pre.length 0 = rows[j][pre.length] := by
        simp [List.getD_eq_getElem?_getD, hj, hlw]
      rw [hg]
      simp_arith only [wipe_1, List.set_cons_succ, List.set_cons_zero, hat]
      split
      · simp only [*]
      · rename_i hne
        simpa using hne
    · have hkeys : ((List.range rows.length).filter fun j : Nat => decide (0 < (rows.getD j []).getD pre.length 0)).map (fun j : Nat => D.ref (S.length + 1 + j)) = (((List.range rows.length).filter fun j : Nat => decide (0 < (rows.getD j []).getD pre.length 0)).map fun j => S.length + 1 + j).map D.ref := by rw [List.map_map]; rfl
      rw [hkeys]
      have hflen : ((List.range rows.length).filter fun j : Nat => decide (0 < (rows.getD j []).getD pre.length 0)).length ≤ rows.length := Nat.le_trans (List.length_filter_le _ _) (by simp)
      rw [newL_c (by simp only [List.length_map]; exact line_le (by omega))]
      have hcmp := cmp_eq_refs (S := TbC T rows) (ks := ((List.range rows.length).filter fun j : Nat => decide (0 < (rows.getD j []).getD pre.length 0)).map fun j => S.length + 1 + j) fun x hx => by
        obtain ⟨j, hj, rfl⟩ := List.mem_map.mp hx
        have hj : j < rows.length := List.mem_range.mp (List.mem_filter.mp hj).1
        exact ⟨_, hrowat (List.getElem?_eq_getElem hj)⟩
      simp_arith only [hcmp]
      have h0 : 0 < rows.length := by omega
      have c0 : rows[0]? = some rows[0] := List.getElem?_eq_getElem h0
      have hw := hr _ (List.getElem_mem h0)
      generalize hws : rows[0] = ws at c0 hw
      cases he : (((List.range rows.length).filter fun j : Nat => decide (0 < (rows.getD j []).getD pre.length 0)).map fun j => S.length + 1 + j).isEmpty with
      | true =>
        have hix0 : ixS (.ref S.length) (.int 0) (TbC T rows) = .ok (.ref (S.length + 1 + 0)) (TbC T rows) := hix rows 0 h0
        have hsub := fun {ρ} => sub_ref (b := S.length) (k := (pre.length : Nat)) (v := .int 2) (ρ := ρ) (hrowat c0) (j := pre.length) (ixD_nat (k := pre.length) (by simp; rw [hw.1.1]; exact hlt)) (fun _ => rfl)
        have e1 : (ws.map D.int).set pre.length (.int 2) = (ws.set pre.length 2).map D.int := by simp
        have e2 := tb_setrow (S := T) (rows := rows) (j := 0) (ws := ws.set pre.length 2)
        rw [hT] at e2
        rw [e1, e2] at hsub
        simp_arith only [hix0, hsub]
        refine ⟨rows.set 0 (ws.set pre.length 2), _, rfl, rfl, by simp [hl], fun r hr' => ?_, fun j hj => ?_⟩
        · rcases List.mem_or_eq_of_mem_set hr' with h | rfl
          · exact hr r h
          · exact ⟨row_set hw.1 (by decide), sum_setp hw.1.2 (by rw [hw.1.1]; exact hlt) (by decide)⟩
        · have hmem : ws.set pre.length 2 ∈ rows.set 0 (ws.set pre.length 2) := List.mem_set h0 _
          by_cases hjp : j = pre.length
          · subst hjp
            refine ⟨_, hmem, ?_⟩
            rw [List.getD_eq_getElem?_getD, List.getElem?_set_self (by rw [hw.1.1]; exact hlt)]
            decide
          · obtain ⟨v, hv, hp⟩ := hs j (by simp at hj; omega)
            obtain ⟨i, hi⟩ := List.getElem?_of_mem hv
            by_cases hi0 : i = 0
            · subst hi0
              rw [c0] at hi
              cases hi
              refine ⟨_, hmem, ?_⟩
              rw [List.getD_eq_getElem?_getD, List.getElem?_set_ne (Ne.symm hjp), ← List.getD_eq_getElem?_getD]
              exact hp
            · refine ⟨v, List.mem_of_getElem? (i := i) ?_, hp⟩
              rw [List.getElem?_set_ne (Ne.symm hi0)]
              exact hi
      | false =>
        simp_arith only
        refine ⟨rows, _, rfl, rfl, hl, hr, fun j hj => ?_⟩
        by_cases hjp : j = pre.length
        · subst hjp
          rw [List.isEmpty_eq_false_iff] at he
          obtain ⟨x, hx⟩ := List.exists_mem_of_ne_nil _ he
          obtain ⟨i, hi, _⟩ := List.mem_map.mp hx
          obtain ⟨hi1, hi2⟩ := List.mem_filter.mp hi
          have hi1 : i < rows.length := List.mem_range.mp hi1
          refine ⟨rows[i], List.getElem_mem hi1, ?_⟩
          have := of_decide_eq_true hi2
          simpa [List.getD_eq_getElem?_getD, hi1] using this
        · exact hs j (by simp at hj; omega)
  clear hl hr hs hs' rows
  rintro ρ S' ⟨rows, o5, rfl, rfl, hl, hr, hs⟩
  rw [List.length_range] at hs
  simp_arith only [itr_ref (htab rows)]
  unfold refsN
  refine lc_map (fun j : Nat => rowD (spr (rows.getD j []))) (stays_self (htab rows)) (by simp; exact line_le (by omega)) ?_ ?_
  · intro j hj
    have hj : j < rows.length := List.mem_range.mp hj
    have c0 : rows[j]? = some rows[j] := List.getElem?_eq_getElem hj
    have hw := hr _ (List.getElem_mem hj)
    have hg : rows.getD j [] = rows[j] := by simp [List.getD_eq_getElem?_getD, hj]
    rw [hg]
    have hu : Lsv (TbC T rows) (.ref (S.length + 1 + j)) (rows[j].map D.int) := .inr ⟨_, rfl, hrowat c0⟩
    simp_arith only [wipe_1, List.set_cons_succ, List.set_cons_zero, law_spread_c hu hw.1.2 (by rw [hw.1.1]; omega) hw.2]
  · have e : (List.range rows.length).map (fun j : Nat => rowD (spr (rows.getD j []))) = (rows.map spr).map rowD := by
      rw [List.map_map]
      apply List.ext_getElem?
      intro j
      rw [List.getElem?_map, List.getElem?_map]
      by_cases hj : j < rows.length
      · rw [List.getElem?_range hj, List.getElem?_eq_getElem hj]
        simp [List.getD_eq_getElem?_getD, hj]
      · rw [List.getElem?_eq_none (by simpa using hj), List.getElem?_eq_none (by omega)]
        rfl
    rw [e, newL_c (by simp; exact line_le (by omega))]
    simp_arith only
    have hwd : wd (rows.map spr) = many := by
      cases rows with
      | nil => simp at hl; omega
      | cons r0 rest => simp only [wd, List.map_cons, List.headD_cons, spr_len]; exact (hr r0 List.mem_cons_self).1.1
    refine ⟨mdl_pure, rows.map spr, rfl, ⟨by simp; omega, by simp; omega, fun r h => ?_, fun r h => ?_, by omega, by omega, fun j hj => ?_⟩, by omega, fun r h => ?_, ?_⟩
    · obtain ⟨ws, hw, rfl⟩ := List.mem_map.mp h
      exact spr_ch (fun v hv => ((hr ws hw).1.2 v hv).1) (hr ws hw).2
    · obtain ⟨ws, hw, rfl⟩ := List.mem_map.mp h
      rw [hwd, spr_len]; exact (hr ws hw).1.1
    · rw [hwd] at hj
      obtain ⟨ws, hw, hp⟩ := hs j hj
      exact ⟨_, List.mem_map.mpr ⟨ws, hw, rfl⟩, spr_pos (hr ws hw).2 hp⟩
    · obtain ⟨ws, hw, rfl⟩ := List.mem_map.mp h
      exact szs_spr (hr ws hw).1.2 (by rw [(hr ws hw).1.1]; omega) (hr ws hw).2
    · rw [← hT, tb_take]
      exact hd
end Lb

/-! Plain: comparing data without booleans. -/
namespace Mn
open PySem
noncomputable def tv (p : Prop) : Bool := @decide p (Classical.propDecidable p)
theorem tv_true {p : Prop} : tv p = true ↔ p := by unfold tv; simp
theorem tv_false {p : Prop} : tv p = false ↔ ¬ p := by unfold tv; simp
theorem tv_of {p : Prop} (h : p) : tv p = true := tv_true.mpr h
theorem tv_no {p : Prop} (h : ¬ p) : tv p = false := tv_false.mpr h
theorem tv_iff {p q : Prop} (h : p ↔ q) : tv p = tv q := by rw [show p = q from propext h]
theorem tv_dec {p : Prop} [d : Decidable p] : tv p = decide p := by unfold tv; congr 1
theorem tv_eq {p : Prop} {b : Bool} (h : b = true ↔ p) : tv p = b := by
  cases b with
  | true => exact tv_of (h.mp rfl)
  | false => exact tv_no fun hp => by have := h.mpr hp; cases this
theorem tv_not {p : Prop} : (!tv p) = tv (¬ p) := by
  by_cases h : p
  · rw [tv_of h, tv_no (fun hn => hn h)]; rfl
  · rw [tv_no h, tv_of h]; rfl
/-- data without booleans and cells -/
def sd : Nat → D → Bool
  | _, .int _ => true
  | _, .non => true
  | _, .str s => PyData.canLay0 (.str s)
  | n + 1, .tup ds => ds.all (sd n)
  | n + 1, .lst ds => ds.all (sd n)
  | _, _ => false
theorem sd_mono : ∀ {n m : Nat} {d : D}, n ≤ m → sd n d = true → sd m d = true
  | 0, m, .int _, _, _ => by cases m <;> rfl
  | _ + 1, m, .int _, _, _ => by cases m <;> rfl
  | 0, m, .non, _, _ => by cases m <;> rfl
  | _ + 1, m, .non, _, _ => by cases m <;> rfl
  | 0, m, .str s, _, h => by cases m <;> exact h
  | _ + 1, m, .str s, _, h => by cases m <;> exact h
  | 0, _, .tup _, _, h => by simp [sd] at h
  | 0, _, .lst _, _, h => by simp [sd] at h
  | n + 1, 0, _, hl, _ => by omega
  | n + 1, m + 1, .tup ds, hl, h => by
    simp only [sd, List.all_eq_true] at h ⊢
    exact fun d hd => sd_mono (by omega) (h d hd)
  | n + 1, m + 1, .lst ds, hl, h => by
    simp only [sd, List.all_eq_true] at h ⊢
    exact fun d hd => sd_mono (by omega) (h d hd)
  | 0, _, .bl _, _, h => by simp [sd] at h
  | _ + 1, _, .bl _, _, h => by simp [sd] at h
  | 0, _, .ref _, _, h => by simp [sd] at h
  | _ + 1, _, .ref _, _, h => by simp [sd] at h
  | 0, _, .scr _, _, h => by simp [sd] at h
  | _ + 1, _, .scr _, _, h => by simp [sd] at h
theorem sd_pure : ∀ (n : Nat) {d : D}, sd n d = true → D.pure d = true := by
  have all : ∀ (n : Nat), (∀ {d : D}, sd n d = true → D.pure d = true) → ∀ {ds : List D}, ds.all (sd n) = true → D.pures ds = true := by
    intro n ih ds
    induction ds with
    | nil => intro _; rfl
    | cons d r ihr =>
      intro h
      rw [List.all_cons, Bool.and_eq_true] at h
      simp only [D.pures, ih h.1, ihr h.2, Bool.and_self]
  intro n
  induction n with
  | zero => intro d h; cases d <;> first | rfl | (simp [sd] at h)
  | succ n ih =>
    intro d h
    cases d with
    | tup ds => simp only [D.pure]; exact all n ih (by simpa [sd] using h)
    | lst ds => simp only [D.pure]; exact all n ih (by simpa [sd] using h)
    | _ => first | rfl | (simp [sd] at h)
theorem sd_lay : ∀ (n : Nat) {d : D}, sd n d = true → PyData.canLay0 (D.py d) = true ∧ PyData.depth (D.py d) ≤ n := by
  have all : ∀ (n : Nat), (∀ {d : D}, sd n d = true → PyData.canLay0 (D.py d) = true ∧ PyData.depth (D.py d) ≤ n) → ∀ {ds : List D}, ds.all (sd n) = true → PyData.canLayAll0 (D.pys ds) = true ∧ PyData.depthAll (D.pys ds) ≤ n := by
    intro n ih ds
    induction ds with
    | nil => intro _; exact ⟨rfl, Nat.zero_le _⟩
    | cons d r ihr =>
      intro h
      rw [List.all_cons, Bool.and_eq_true] at h
      obtain ⟨a, b⟩ := ih h.1
      obtain ⟨c, e⟩ := ihr h.2
      refine ⟨?_, ?_⟩
      · show PyData.canLayAll0 (D.py d :: D.pys r) = true
        rw [PyData.canLayAll0, a, c]; rfl
      · show PyData.depthAll (D.py d :: D.pys r) ≤ n
        rw [PyData.depthAll]
        exact Nat.max_le.mpr ⟨b, e⟩
  intro n
  induction n with
  | zero =>
    intro d h
    cases d with
    | int _ => exact ⟨rfl, Nat.le_refl _⟩
    | non => exact ⟨rfl, Nat.le_refl _⟩
    | str s => exact ⟨h, Nat.le_refl _⟩
    | _ => simp [sd] at h
  | succ n ih =>
    intro d h
    cases d with
    | int _ => exact ⟨rfl, Nat.zero_le _⟩
    | non => exact ⟨rfl, Nat.zero_le _⟩
    | str s => exact ⟨h, Nat.zero_le _⟩
    | tup ds =>
      obtain ⟨a, b⟩ := all n ih (ds := ds) (by simpa [sd] using h)
      simp only [D.py]
      rw [PyData.canLay0, PyData.depth]
      exact ⟨a, Nat.succ_le_succ b⟩
    | lst ds =>
      obtain ⟨a, b⟩ := all n ih (ds := ds) (by simpa [sd] using h)
      simp only [D.py]
      rw [PyData.canLay0, PyData.depth]
      exact ⟨a, Nat.succ_le_succ b⟩
    | _ => simp [sd] at h
theorem sd_shaped {n : Nat} {d : D} (h : sd n d = true) (hn : n ≤ 64) : SeqAt.shaped (D.py d) = true := by
  obtain ⟨a, b⟩ := sd_lay n h
  unfold SeqAt.shaped
  rw [a, Bool.true_and]
  exact decide_eq_true (Nat.le_trans b hn)
theorem eqv_sd : ∀ (n : Nat) {x y : D}, sd n x = true → sd n y = true → PyData.eqv (D.py x) (D.py y) = D.same x y := by
  have all : ∀ (n : Nat), (∀ {x y : D}, sd n x = true → sd n y = true → PyData.eqv (D.py x) (D.py y) = D.same x y) → ∀ {xs ys : List D}, xs.all (sd n) = true → ys.all (sd n) = true → PyData.eqvAll (D.pys xs) (D.pys ys) = D.sames xs ys := by
    intro n ih xs
    induction xs with
    | nil =>
      intro ys _ _
      cases ys with
      | nil => simp [D.pys, PyData.eqvAll, D.sames]
      | cons y s => simp [D.pys, PyData.eqvAll, D.sames]
    | cons x r ihr =>
      intro ys hx hy
      cases ys with
      | nil => simp [D.pys, PyData.eqvAll, D.sames]
      | cons y s =>
        rw [List.all_cons, Bool.and_eq_true] at hx hy
        simp only [D.pys, PyData.eqvAll, D.sames, ih hx.1 hy.1, ihr hx.2 hy.2]
  intro n
  induction n with
  | zero =>
    intro x y hx hy
    cases x <;> first | (simp [sd] at hx; done) | (cases y <;> first | (simp [sd] at hy; done) | (simp only [D.py, PyData.eqv, D.same]))
  | succ n ih =>
    intro x y hx hy
    cases x with
    | tup xs =>
      cases y with
      | tup ys => simp only [D.py, PyData.eqv, D.same]; exact all n ih (by simpa [sd] using hx) (by simpa [sd] using hy)
      | _ => first | (simp [sd] at hy; done) | (simp only [D.py, PyData.eqv, D.same])
    | lst xs =>
      cases y with
      | lst ys => simp only [D.py, PyData.eqv, D.same]; exact all n ih (by simpa [sd] using hx) (by simpa [sd] using hy)
      | _ => first | (simp [sd] at hy; done) | (simp only [D.py, PyData.eqv, D.same])
    | _ => first | (simp [sd] at hx; done) | (cases y <;> first | (simp [sd] at hy; done) | (simp only [D.py, PyData.eqv, D.same]))
theorem same_tv {x y : D} : D.same x y = tv (x = y) := (tv_eq ⟨D.same_eq, fun h => by rw [h]; exact D.same_refl y⟩).symm
theorem cmp_eq_sd {S : Store} {x y : D} {n : Nat} (hx : sd n x = true) (hy : sd n y = true) (hn : n ≤ 64) : cmpD .eq x y S = .ok (.bl (tv (x = y))) S := by
  show (match pyS S x, pyS S y with
    | some a, some b => if SeqAt.shaped a && SeqAt.shaped b then Res.ok (D.bl (PyData.eqv a b)) S else .stuck
    | _, _ => .stuck) = _
  rw [pyS_pure (sd_pure n hx), pyS_pure (sd_pure n hy)]
  simp only
  rw [sd_shaped hx hn, sd_shaped hy hn, eqv_sd n hx hy, same_tv]
  rfl
theorem cmp_ne_sd {S : Store} {x y : D} {n : Nat} (hx : sd n x = true) (hy : sd n y = true) (hn : n ≤ 64) : cmpD .ne x y S = .ok (.bl (tv (x ≠ y))) S := by
  show (match pyS S x, pyS S y with
    | some a, some b => if SeqAt.shaped a && SeqAt.shaped b then Res.ok (D.bl (!PyData.eqv a b)) S else .stuck
    | _, _ => .stuck) = _
  rw [pyS_pure (sd_pure n hx), pyS_pure (sd_pure n hy)]
  simp only
  rw [sd_shaped hx hn, sd_shaped hy hn, eqv_sd n hx hy, same_tv, tv_not]
  rfl
theorem sd_fr {n : Nat} {q : Rat} : sd (n + 1) (fr q) = true := by cases n <;> rfl
theorem sd_rowD {n : Nat} {l : List Rat} : sd (n + 2) (rowD l) = true := by
  simp only [rowD, sd, List.all_eq_true]
  intro d hd
  obtain ⟨q, _, rfl⟩ := List.mem_map.mp hd
  exact sd_fr
theorem sd_mdl {n : Nat} {m : List (List Rat)} : sd (n + 3) (mdl m) = true := by
  simp only [mdl, sd, List.all_eq_true]
  intro d hd
  obtain ⟨q, _, rfl⟩ := List.mem_map.mp hd
  exact sd_rowD
theorem sd_ints {n : Nat} {l : List Int} : sd (n + 1) (intsD l) = true := by
  simp only [intsD, sd, List.all_eq_true]
  intro d hd
  obtain ⟨q, _, rfl⟩ := List.mem_map.mp hd
  cases n <;> rfl
theorem sd_nats {n : Nat} {l : List Nat} : sd (n + 1) (natsD l) = true := by
  simp only [natsD, sd, List.all_eq_true]
  intro d hd
  obtain ⟨q, _, rfl⟩ := List.mem_map.mp hd
  cases n <;> rfl
theorem sd_los {n : Nat} {l : List (List Int)} : sd (n + 2) (losD l) = true := by
  simp only [losD, sd, List.all_eq_true]
  intro d hd
  obtain ⟨q, _, rfl⟩ := List.mem_map.mp hd
  exact sd_ints
theorem map_inj {α : Type} {f : α → D} (hf : ∀ a b, f a = f b → a = b) : ∀ {xs ys : List α}, xs.map f = ys.map f → xs = ys
  | [], [], _ => rfl
  | [], _ :: _, h => by simp at h
  | _ :: _, [], h => by simp at h
  | a :: r, b :: s, h => by
    simp only [List.map_cons, List.cons.injEq] at h
    rw [hf _ _ h.1, map_inj hf h.2]
theorem fr_eq {p q : Rat} : fr p = fr q ↔ p = q := ⟨fr_inj, fun h => by rw [h]⟩
theorem rowD_eq {p q : List Rat} : rowD p = rowD q ↔ p = q := ⟨fun h => map_inj (fun _ _ => fr_inj) (D.tup.inj h), fun h => by rw [h]⟩
theorem mdl_eq {p q : List (List Rat)} : mdl p = mdl q ↔ p = q := ⟨fun h => map_inj (fun _ _ => rowD_eq.mp) (D.tup.inj h), fun h => by rw [h]⟩
theorem intsD_eq {p q : List Int} : intsD p = intsD q ↔ p = q := ⟨fun h => map_inj (fun _ _ => D.int.inj) (D.tup.inj h), fun h => by rw [h]⟩
theorem natsD_eq {p q : List Nat} : natsD p = natsD q ↔ p = q := ⟨fun h => map_inj (fun _ _ h => by have := D.int.inj h; omega) (D.tup.inj h), fun h => by rw [h]⟩
theorem losD_eq {p q : List (List Int)} : losD p = losD q ↔ p = q := ⟨fun h => map_inj (fun _ _ => intsD_eq.mp) (D.tup.inj h), fun h => by rw [h]⟩
theorem eq_fr {S : Store} {p q : Rat} : cmpD .eq (fr p) (fr q) S = .ok (.bl (tv (p = q))) S := by rw [cmp_eq_sd (n := 1) sd_fr sd_fr (by decide), tv_iff fr_eq]
theorem ne_fr {S : Store} {p q : Rat} : cmpD .ne (fr p) (fr q) S = .ok (.bl (tv (p ≠ q))) S := by rw [cmp_ne_sd (n := 1) sd_fr sd_fr (by decide), tv_iff (not_congr fr_eq)]
@[simp ↓] theorem eq_fr_c {β : Type} {p q : Rat} {S : Store} {k : D → Store → β} {x : Nat → Store → β} {z : β} : (cmpD .eq (fr p) (fr q) S).cps k x z = k (.bl (tv (p = q))) S := cps_of eq_fr
@[simp ↓] theorem ne_fr_c {β : Type} {p q : Rat} {S : Store} {k : D → Store → β} {x : Nat → Store → β} {z : β} : (cmpD .ne (fr p) (fr q) S).cps k x z = k (.bl (tv (p ≠ q))) S := cps_of ne_fr
theorem atD_k {ds : List D} {j : Nat} {d : D} (h : ds[j]? = some d) : atD ds (j : Nat) = some d := by rw [atD_nat, h]
@[simp ↓] theorem ix_row {β : Type} {l : List Rat} {j : Nat} {S : Store} {k : D → Store → β} {x : Nat → Store → β} {z : β} : (ixS (rowD l) (.int (j : Nat)) S).cps k x z = (ofO ((l[j]?).map fr) S).cps k x z := by
  show (ixS (.tup (l.map fr)) _ _).cps _ _ _ = _
  rw [ix_tup, atD_nat, List.getElem?_map]
theorem ix_row_c {β : Type} {l : List Rat} {j : Nat} (h : j < l.length) {S : Store} {k : D → Store → β} {x : Nat → Store → β} {z : β} : (ixS (rowD l) (.int (j : Nat)) S).cps k x z = k (fr (l.getD j 0)) S := by
  rw [ix_row, List.getElem?_eq_getElem h]
  rw [List.getD_eq_getElem?_getD, List.getElem?_eq_getElem h]
  exact ofO_c rfl
@[simp ↓] theorem len_row {β : Type} {m : Bool} {l : List Rat} {S : Store} {k : D → Store → β} {x : Nat → Store → β} {z : β} : (biD m .len [rowD l] S).cps k x z = k (.int (l.length : Nat)) S := by
  show (biD m .len [.tup (l.map fr)] S).cps k x z = _
  rw [len_seq_c, List.length_map]
@[simp ↓] theorem len_mdl {β : Type} {m : Bool} {l : List (List Rat)} {S : Store} {k : D → Store → β} {x : Nat → Store → β} {z : β} : (biD m .len [mdl l] S).cps k x z = k (.int (l.length : Nat)) S := by
  show (biD m .len [.tup (l.map rowD)] S).cps k x z = _
  rw [len_seq_c, List.length_map]
@[simp ↓] theorem len_los {β : Type} {m : Bool} {l : List (List Int)} {S : Store} {k : D → Store → β} {x : Nat → Store → β} {z : β} : (biD m .len [losD l] S).cps k x z = k (.int (l.length : Nat)) S := by
  show (biD m .len [.tup (l.map intsD)] S).cps k x z = _
  rw [len_seq_c, List.length_map]
@[simp ↓] theorem ix_mdl0 {β : Type} {r : List Rat} {l : List (List Rat)} {S : Store} {k : D → Store → β} {x : Nat → Store → β} {z : β} : (ixS (mdl (r :: l)) (.int 0) S).cps k x z = k (rowD r) S := by
  show (ixS (.tup (rowD r :: l.map rowD)) _ _).cps _ _ _ = _
  rw [ix_t0_c]
theorem ix_mdl {β : Type} {l : List (List Rat)} (h : l ≠ []) {S : Store} {k : D → Store → β} {x : Nat → Store → β} {z : β} : (ixS (mdl l) (.int 0) S).cps k x z = k (rowD (l.headD [])) S := by
  cases l with
  | nil => exact absurd rfl h
  | cons r l => rw [ix_mdl0]; rfl
@[simp ↓] theorem isi_row_tuple {β : Type} {l : List Rat} {S : Store} {k : D → Store → β} {x : Nat → Store → β} {z : β} : (isiD (rowD l) .tuple S).cps k x z = k (.bl true) S := isi_tup_tuple_c
@[simp ↓] theorem cmp_is_c {β : Type} {d : D} {S : Store} {k : D → Store → β} {x : Nat → Store → β} {z : β} : (cmpD .is_ d .non S).cps k x z = k (.bl (isNonD d)) S := by
  have : cmpD .is_ d .non S = .ok (.bl (isNonD d)) S := rfl
  rw [this, cps_ok]
@[simp ↓] theorem cmp_isnot_c {β : Type} {d : D} {S : Store} {k : D → Store → β} {x : Nat → Store → β} {z : β} : (cmpD .isnot d .non S).cps k x z = k (.bl (!isNonD d)) S := by
  have : cmpD .isnot d .non S = .ok (.bl (!isNonD d)) S := rfl
  rw [this, cps_ok]
@[simp] theorem isNon_non : isNonD .non = true := rfl
@[simp] theorem isNon_bl {b : Bool} : isNonD (.bl b) = false := rfl
@[simp] theorem isNon_int {i : Int} : isNonD (.int i) = false := rfl
@[simp] theorem isNon_str {s : Str} : isNonD (.str s) = false := rfl
@[simp] theorem isNon_tup {l : List D} : isNonD (.tup l) = false := rfl
@[simp] theorem isNon_lst {l : List D} : isNonD (.lst l) = false := rfl
@[simp] theorem isNon_fr {q : Rat} : isNonD (fr q) = false := rfl
@[simp] theorem isNon_row {l : List Rat} : isNonD (rowD l) = false := rfl
@[simp] theorem isNon_mdl {l : List (List Rat)} : isNonD (mdl l) = false := rfl
section
variable {S : Store} {l : List D}
/-! a list that is made, its cell being the last -/
@[simp] theorem cell_at : (S ++ [Cell.lst l])[S.length]? = some (.lst l) := by simp
@[simp] theorem cell_lst : lstOf (S ++ [Cell.lst l]) (.ref S.length) = some l := lst_ref cell_at
theorem cell_app {m : Bool} {d : D} (h : l.length < 10000) : bmD S.length m .append (.ref S.length) [d] (S ++ [Cell.lst l]) = .ok .non (S ++ [Cell.lst (l ++ [d])]) := by
  rw [app_at cell_at (Nat.lt_of_lt_of_le h (by decide)) (fun h => absurd h (Nat.lt_irrefl _))]
  simp
theorem cell_tup {m : Bool} : biD m .tuple [.ref S.length] (S ++ [Cell.lst l]) = .ok (.tup l) (S ++ [Cell.lst l]) := by
  show (match lstOf _ (D.ref S.length) with | some ds => Res.ok (D.tup ds) _ | none => .stuck) = _
  rw [cell_lst]
@[simp ↓] theorem cell_tup_c {β : Type} {m : Bool} {k : D → Store → β} {x : Nat → Store → β} {z : β} : (biD m .tuple [.ref S.length] (S ++ [Cell.lst l])).cps k x z = k (.tup l) (S ++ [Cell.lst l]) := cps_of cell_tup
@[simp ↓] theorem newL_nil_c {β : Type} {k : D → Store → β} {x : Nat → Store → β} {z : β} : (newL true [] S).cps k x z = k (.ref S.length) (S ++ [.lst []]) := by rw [newL_r (by simp)]
end
theorem ix_ints {β : Type} {l : List Int} {j : Nat} (h : j < l.length) {S : Store} {k : D → Store → β} {x : Nat → Store → β} {z : β} : (ixS (intsD l) (.int (j : Nat)) S).cps k x z = k (.int (l.getD j 0)) S := by
  show (ixS (.tup (l.map D.int)) _ _).cps _ _ _ = _
  rw [ix_tup, atD_nat, List.getElem?_map, List.getElem?_eq_getElem h]
  rw [List.getD_eq_getElem?_getD, List.getElem?_eq_getElem h]
  exact ofO_c rfl
theorem ix_mdl_c {β : Type} {l : List (List Rat)} {j : Nat} (h : j < l.length) {S : Store} {k : D → Store → β} {x : Nat → Store → β} {z : β} : (ixS (mdl l) (.int (j : Nat)) S).cps k x z = k (rowD (l.getD j [])) S := by
  show (ixS (.tup (l.map rowD)) _ _).cps _ _ _ = _
  rw [ix_tup, atD_nat, List.getElem?_map, List.getElem?_eq_getElem h]
  rw [List.getD_eq_getElem?_getD, List.getElem?_eq_getElem h]
  exact ofO_c rfl
theorem sq_row {l : List Rat} : SqD (rowD l) (l.map fr) := .inl rfl
theorem sq_mdl {l : List (List Rat)} : SqD (mdl l) (l.map rowD) := .inl rfl
theorem sq_los {l : List (List Int)} : SqD (losD l) (l.map intsD) := .inl rfl
theorem sq_ints {l : List Int} : SqD (intsD l) (l.map D.int) := .inl rfl
theorem sq_nats {l : List Nat} : SqD (natsD l) (l.map fun a : Nat => D.int (a : Nat)) := .inl rfl
end Mn

/-! Plain: walking through and cutting what is encoded (printed by gen/q2.py). -/
namespace Mn
open PySem
@[simp] theorem intO_n : intO none = some none := rfl
@[simp] theorem intO_i {i : Int} : intO (some (.int i)) = some (some i) := rfl
@[simp] theorem isSome_s {α : Type} {a : α} : (some a).isSome = true := rfl
theorem sl_tup {m : Bool} {S : Store} {ds : List D} {l h : Option D} {lo hi : Option Int} (e1 : intO l = some lo) (e2 : intO h = some hi) : slD m (.tup ds) l h S = .ok (.tup (cutD ds lo hi)) S := by
  unfold slD
  rw [e1, e2]
theorem cut_take {α : Type} {ds : List α} {k : Nat} : cutD ds none (some (k : Nat)) = ds.take k := by
  unfold cutD clampD
  have h1 : ¬ ((k : Nat) : Int) < 0 := by omega
  simp only [h1, if_false, List.drop_zero, Nat.sub_zero]
  by_cases h : k ≤ ds.length
  · congr 1
    omega
  · rw [List.take_of_length_le (by omega), List.take_of_length_le (by omega)]
theorem cut_drop {α : Type} {ds : List α} {k : Nat} : cutD ds (some (k : Nat)) none = ds.drop k := by
  unfold cutD clampD
  have h1 : ¬ ((k : Nat) : Int) < 0 := by omega
  simp only [h1, if_false]
  have h3 : (min ((k : Nat) : Int) (ds.length : Int)).toNat = min k ds.length := by omega
  rw [h3]
  by_cases h : k ≤ ds.length
  · rw [Nat.min_eq_left h]
    exact List.take_of_length_le (by simp)
  · rw [Nat.min_eq_right (by omega), List.drop_of_length_le (Nat.le_refl _), List.drop_of_length_le (by omega)]
    simp
theorem cut_last {α : Type} {ds : List α} : cutD ds none (some (-1)) = ds.dropLast := by
  unfold cutD clampD
  have h1 : ((-1 : Int)) < 0 := by decide
  simp only [h1, if_true, List.drop_zero, Nat.sub_zero]
  rw [List.dropLast_eq_take]
  congr 1
  omega
theorem sl_from {β : Type} {m : Bool} {ds : List D} {j : Nat} {S : Store} {k : D → Store → β} {x : Nat → Store → β} {z : β} : (slD m (.tup ds) (some (.int (j : Nat))) none S).cps k x z = k (.tup (ds.drop j)) S := by
  rw [sl_tup rfl rfl, cut_drop, cps_ok]
theorem sl_to {β : Type} {m : Bool} {ds : List D} {j : Nat} {S : Store} {k : D → Store → β} {x : Nat → Store → β} {z : β} : (slD m (.tup ds) none (some (.int (j : Nat))) S).cps k x z = k (.tup (ds.take j)) S := by
  rw [sl_tup rfl rfl, cut_take, cps_ok]
@[simp ↓] theorem slT_1 {β : Type} {m : Bool} {ds : List D} {S : Store} {k : D → Store → β} {x : Nat → Store → β} {z : β} : (slD m (.tup ds) (some (.int 1)) none S).cps k x z = k (.tup (ds.drop 1)) S := sl_from (j := 1)
@[simp ↓] theorem slT_t1 {β : Type} {m : Bool} {ds : List D} {S : Store} {k : D → Store → β} {x : Nat → Store → β} {z : β} : (slD m (.tup ds) none (some (.int 1)) S).cps k x z = k (.tup (ds.take 1)) S := sl_to (j := 1)
@[simp ↓] theorem slT_t2 {β : Type} {m : Bool} {ds : List D} {S : Store} {k : D → Store → β} {x : Nat → Store → β} {z : β} : (slD m (.tup ds) none (some (.int 2)) S).cps k x z = k (.tup (ds.take 2)) S := sl_to (j := 2)
@[simp ↓] theorem slT_t4 {β : Type} {m : Bool} {ds : List D} {S : Store} {k : D → Store → β} {x : Nat → Store → β} {z : β} : (slD m (.tup ds) none (some (.int 4)) S).cps k x z = k (.tup (ds.take 4)) S := sl_to (j := 4)
@[simp ↓] theorem slT_l {β : Type} {m : Bool} {ds : List D} {S : Store} {k : D → Store → β} {x : Nat → Store → β} {z : β} : (slD m (.tup ds) none (some (.int (-1))) S).cps k x z = k (.tup ds.dropLast) S := by
  rw [sl_tup rfl rfl, cut_last, cps_ok]
theorem addT_c {β : Type} {m : Bool} {a b : List D} (h : a.length + b.length ≤ 10000) {S : Store} {k : D → Store → β} {x : Nat → Store → β} {z : β} : (binD m .add (.tup a) (.tup b) S).cps k x z = k (.tup (a ++ b)) S := by
  rw [bin_addT, newT_c (by rw [List.length_append]; exact line_le h)]
theorem addL_c {β : Type} {a b : List D} (h : a.length + b.length ≤ 10000) {S : Store} {k : D → Store → β} {x : Nat → Store → β} {z : β} : (binD false .add (.lst a) (.lst b) S).cps k x z = k (.lst (a ++ b)) S := by
  rw [bin_addL, newL_c (by rw [List.length_append]; exact line_le h)]
@[simp ↓] theorem listT_c {β : Type} {m : Bool} {ds : List D} {S : Store} {k : D → Store → β} {x : Nat → Store → β} {z : β} : (biD m .list [.tup ds] S).cps k x z = (newL m ds S).cps k x z := by
  have : biD m .list [.tup ds] S = newL m ds S := rfl
  rw [this]
@[simp ↓] theorem listL_c {β : Type} {m : Bool} {ds : List D} {S : Store} {k : D → Store → β} {x : Nat → Store → β} {z : β} : (biD m .list [.lst ds] S).cps k x z = (newL m ds S).cps k x z := by
  have : biD m .list [.lst ds] S = newL m ds S := rfl
  rw [this]
theorem mulT_c {β : Type} {m : Bool} {a : List D} {j : Nat} (h : a.length * j ≤ 10000) (hj : j ≤ 1000) (ha : 0 < a.length) (ha2 : a.length ≤ 1000) {S : Store} {k : D → Store → β} {x : Nat → Store → β} {z : β} : (binD m .mul (.tup a) (.int (j : Nat)) S).cps k x z = k (.tup (List.replicate j a).flatten) S := by
  refine cps_of ?_
  show (if (0 ≤ ((j : Nat) : Int) ∧ ((j : Nat) : Int) ≤ 1000 ∧ a.length ≤ 1000) ∧ a.isEmpty = false then Res.ok (D.tup (List.replicate ((j : Nat) : Int).toNat a).flatten) S else .stuck) = _
  rw [if_pos ⟨⟨by omega, by omega, ha2⟩, by cases a with | nil => simp at ha | cons _ _ => rfl⟩]
  simp
@[simp ↓] theorem itr_rowD {β : Type} {l : List Rat} {S : Store} {k : List D × Src → Store → β} {x : Nat → Store → β} {z : β} : (iterD (rowD l) S).cps k x z = k (l.map fr, []) S := itr_c (.inl rfl)
@[simp ↓] theorem enum_rowD {β : Type} {l : List Rat} {S : Store} {k : List D × Src → Store → β} {x : Nat → Store → β} {z : β} : (enumSD (rowD l) S).cps k x z = k (l.zipIdx.map fun p => D.tup [.int (p.2 : Nat), fr p.1], []) S := enum_c (f := fr)
@[simp ↓] theorem sl_rowD_1 {β : Type} {m : Bool} {l : List Rat} {S : Store} {k : D → Store → β} {x : Nat → Store → β} {z : β} : (slD m (rowD l) (some (.int 1)) none S).cps k x z = k (rowD (l.drop 1)) S := by
  have := sl_from (m := m) (ds := l.map fr) (j := 1) (S := S) (k := k) (x := x) (z := z)
  rw [← List.map_drop] at this
  exact this
@[simp ↓] theorem sl_rowD_t1 {β : Type} {m : Bool} {l : List Rat} {S : Store} {k : D → Store → β} {x : Nat → Store → β} {z : β} : (slD m (rowD l) none (some (.int 1)) S).cps k x z = k (rowD (l.take 1)) S := by
  have := sl_to (m := m) (ds := l.map fr) (j := 1) (S := S) (k := k) (x := x) (z := z)
  rw [← List.map_take] at this
  exact this
@[simp ↓] theorem sl_rowD_t2 {β : Type} {m : Bool} {l : List Rat} {S : Store} {k : D → Store → β} {x : Nat → Store → β} {z : β} : (slD m (rowD l) none (some (.int 2)) S).cps k x z = k (rowD (l.take 2)) S := by
  have := sl_to (m := m) (ds := l.map fr) (j := 2) (S := S) (k := k) (x := x) (z := z)
  rw [← List.map_take] at this
  exact this
@[simp ↓] theorem sl_rowD_t4 {β : Type} {m : Bool} {l : List Rat} {S : Store} {k : D → Store → β} {x : Nat → Store → β} {z : β} : (slD m (rowD l) none (some (.int 4)) S).cps k x z = k (rowD (l.take 4)) S := by
  have := sl_to (m := m) (ds := l.map fr) (j := 4) (S := S) (k := k) (x := x) (z := z)
  rw [← List.map_take] at this
  exact this
@[simp ↓] theorem sl_rowD_l {β : Type} {m : Bool} {l : List Rat} {S : Store} {k : D → Store → β} {x : Nat → Store → β} {z : β} : (slD m (rowD l) none (some (.int (-1))) S).cps k x z = k (rowD l.dropLast) S := by
  have := slT_l (m := m) (ds := l.map fr) (S := S) (k := k) (x := x) (z := z)
  rw [← List.map_dropLast] at this
  exact this
@[simp ↓] theorem list_rowD {β : Type} {m : Bool} {l : List Rat} {S : Store} {k : D → Store → β} {x : Nat → Store → β} {z : β} : (biD m .list [rowD l] S).cps k x z = (newL m (l.map fr) S).cps k x z := listT_c
theorem add_rowD {β : Type} {m : Bool} {a b : List Rat} (h : a.length + b.length ≤ 10000) {S : Store} {k : D → Store → β} {x : Nat → Store → β} {z : β} : (binD m .add (rowD a) (rowD b) S).cps k x z = k (rowD (a ++ b)) S := by
  have := addT_c (m := m) (a := a.map fr) (b := b.map fr) (by simpa using h) (S := S) (k := k) (x := x) (z := z)
  rw [← List.map_append] at this
  exact this
theorem addl_rowD {β : Type} {m : Bool} {v : D} {l : List Rat} (h : l.length ≤ 9000) {S : Store} {k : D → Store → β} {x : Nat → Store → β} {z : β} : (binD m .add (.tup [v]) (rowD l) S).cps k x z = k (.tup (v :: l.map fr)) S := by
  exact addT_c (m := m) (a := [v]) (b := l.map fr) (by simp; omega) (S := S) (k := k) (x := x) (z := z)
theorem addr_rowD {β : Type} {m : Bool} {v : D} {l : List Rat} (h : l.length ≤ 9000) {S : Store} {k : D → Store → β} {x : Nat → Store → β} {z : β} : (binD m .add (rowD l) (.tup [v]) S).cps k x z = k (.tup (l.map fr ++ [v])) S := by
  exact addT_c (m := m) (a := l.map fr) (b := [v]) (by simp; omega) (S := S) (k := k) (x := x) (z := z)
theorem mul_rowD {β : Type} {m : Bool} {l : List Rat} {j : Nat} (h : l.length * j ≤ 10000) (hj : j ≤ 1000) (ha : 0 < l.length) (ha2 : l.length ≤ 1000) {S : Store} {k : D → Store → β} {x : Nat → Store → β} {z : β} : (binD m .mul (rowD l) (.int (j : Nat)) S).cps k x z = k (rowD (List.replicate j l).flatten) S := by
  have := mulT_c (m := m) (a := l.map fr) (j := j) (by simpa using h) hj (by simpa using ha) (by simpa using ha2) (S := S) (k := k) (x := x) (z := z)
  rw [show (List.replicate j (l.map fr)).flatten = ((List.replicate j l).flatten).map fr by rw [List.map_flatten, List.map_replicate]] at this
  exact this
@[simp ↓] theorem itr_mdl {β : Type} {l : List (List Rat)} {S : Store} {k : List D × Src → Store → β} {x : Nat → Store → β} {z : β} : (iterD (mdl l) S).cps k x z = k (l.map rowD, []) S := itr_c (.inl rfl)
@[simp ↓] theorem enum_mdl {β : Type} {l : List (List Rat)} {S : Store} {k : List D × Src → Store → β} {x : Nat → Store → β} {z : β} : (enumSD (mdl l) S).cps k x z = k (l.zipIdx.map fun p => D.tup [.int (p.2 : Nat), rowD p.1], []) S := enum_c (f := rowD)
@[simp ↓] theorem sl_mdl_1 {β : Type} {m : Bool} {l : List (List Rat)} {S : Store} {k : D → Store → β} {x : Nat → Store → β} {z : β} : (slD m (mdl l) (some (.int 1)) none S).cps k x z = k (mdl (l.drop 1)) S := by
  have := sl_from (m := m) (ds := l.map rowD) (j := 1) (S := S) (k := k) (x := x) (z := z)
  rw [← List.map_drop] at this
  exact this
@[simp ↓] theorem sl_mdl_t1 {β : Type} {m : Bool} {l : List (List Rat)} {S : Store} {k : D → Store → β} {x : Nat → Store → β} {z : β} : (slD m (mdl l) none (some (.int 1)) S).cps k x z = k (mdl (l.take 1)) S := by
  have := sl_to (m := m) (ds := l.map rowD) (j := 1) (S := S) (k := k) (x := x) (z := z)
  rw [← List.map_take] at this
  exact this
@[simp ↓] theorem sl_mdl_t2 {β : Type} {m : Bool} {l : List (List Rat)} {S : Store} {k : D → Store → β} {x : Nat → Store → β} {z : β} : (slD m (mdl l) none (some (.int 2)) S).cps k x z = k (mdl (l.take 2)) S := by
  have := sl_to (m := m) (ds := l.map rowD) (j := 2) (S := S) (k := k) (x := x) (z := z)
  rw [← List.map_take] at this
  exact this
@[simp ↓] theorem sl_mdl_t4 {β : Type} {m : Bool} {l : List (List Rat)} {S : Store} {k : D → Store → β} {x : Nat → Store → β} {z : β} : (slD m (mdl l) none (some (.int 4)) S).cps k x z = k (mdl (l.take 4)) S := by
  have := sl_to (m := m) (ds := l.map rowD) (j := 4) (S := S) (k := k) (x := x) (z := z)
  rw [← List.map_take] at this
  exact this
@[simp ↓] theorem sl_mdl_l {β : Type} {m : Bool} {l : List (List Rat)} {S : Store} {k : D → Store → β} {x : Nat → Store → β} {z : β} : (slD m (mdl l) none (some (.int (-1))) S).cps k x z = k (mdl l.dropLast) S := by
  have := slT_l (m := m) (ds := l.map rowD) (S := S) (k := k) (x := x) (z := z)
  rw [← List.map_dropLast] at this
  exact this
@[simp ↓] theorem list_mdl {β : Type} {m : Bool} {l : List (List Rat)} {S : Store} {k : D → Store → β} {x : Nat → Store → β} {z : β} : (biD m .list [mdl l] S).cps k x z = (newL m (l.map rowD) S).cps k x z := listT_c
theorem add_mdl {β : Type} {m : Bool} {a b : List (List Rat)} (h : a.length + b.length ≤ 10000) {S : Store} {k : D → Store → β} {x : Nat → Store → β} {z : β} : (binD m .add (mdl a) (mdl b) S).cps k x z = k (mdl (a ++ b)) S := by
  have := addT_c (m := m) (a := a.map rowD) (b := b.map rowD) (by simpa using h) (S := S) (k := k) (x := x) (z := z)
  rw [← List.map_append] at this
  exact this
theorem addl_mdl {β : Type} {m : Bool} {v : D} {l : List (List Rat)} (h : l.length ≤ 9000) {S : Store} {k : D → Store → β} {x : Nat → Store → β} {z : β} : (binD m .add (.tup [v]) (mdl l) S).cps k x z = k (.tup (v :: l.map rowD)) S := by
  exact addT_c (m := m) (a := [v]) (b := l.map rowD) (by simp; omega) (S := S) (k := k) (x := x) (z := z)
theorem addr_mdl {β : Type} {m : Bool} {v : D} {l : List (List Rat)} (h : l.length ≤ 9000) {S : Store} {k : D → Store → β} {x : Nat → Store → β} {z : β} : (binD m .add (mdl l) (.tup [v]) S).cps k x z = k (.tup (l.map rowD ++ [v])) S := by
  exact addT_c (m := m) (a := l.map rowD) (b := [v]) (by simp; omega) (S := S) (k := k) (x := x) (z := z)
theorem mul_mdl {β : Type} {m : Bool} {l : List (List Rat)} {j : Nat} (h : l.length * j ≤ 10000) (hj : j ≤ 1000) (ha : 0 < l.length) (ha2 : l.length ≤ 1000) {S : Store} {k : D → Store → β} {x : Nat → Store → β} {z : β} : (binD m .mul (mdl l) (.int (j : Nat)) S).cps k x z = k (mdl (List.replicate j l).flatten) S := by
  have := mulT_c (m := m) (a := l.map rowD) (j := j) (by simpa using h) hj (by simpa using ha) (by simpa using ha2) (S := S) (k := k) (x := x) (z := z)
  rw [show (List.replicate j (l.map rowD)).flatten = ((List.replicate j l).flatten).map rowD by rw [List.map_flatten, List.map_replicate]] at this
  exact this
@[simp ↓] theorem itr_losD {β : Type} {l : List (List Int)} {S : Store} {k : List D × Src → Store → β} {x : Nat → Store → β} {z : β} : (iterD (losD l) S).cps k x z = k (l.map intsD, []) S := itr_c (.inl rfl)
@[simp ↓] theorem enum_losD {β : Type} {l : List (List Int)} {S : Store} {k : List D × Src → Store → β} {x : Nat → Store → β} {z : β} : (enumSD (losD l) S).cps k x z = k (l.zipIdx.map fun p => D.tup [.int (p.2 : Nat), intsD p.1], []) S := enum_c (f := intsD)
@[simp ↓] theorem sl_losD_1 {β : Type} {m : Bool} {l : List (List Int)} {S : Store} {k : D → Store → β} {x : Nat → Store → β} {z : β} : (slD m (losD l) (some (.int 1)) none S).cps k x z = k (losD (l.drop 1)) S := by
  have := sl_from (m := m) (ds := l.map intsD) (j := 1) (S := S) (k := k) (x := x) (z := z)
  rw [← List.map_drop] at this
  exact this
@[simp ↓] theorem sl_losD_t1 {β : Type} {m : Bool} {l : List (List Int)} {S : Store} {k : D → Store → β} {x : Nat → Store → β} {z : β} : (slD m (losD l) none (some (.int 1)) S).cps k x z = k (losD (l.take 1)) S := by
  have := sl_to (m := m) (ds := l.map intsD) (j := 1) (S := S) (k := k) (x := x) (z := z)
  rw [← List.map_take] at this
  exact this
@[simp ↓] theorem sl_losD_t2 {β : Type} {m : Bool} {l : List (List Int)} {S : Store} {k : D → Store → β} {x : Nat → Store → β} {z : β} : (slD m (losD l) none (some (.int 2)) S).cps k x z = k (losD (l.take 2)) S := by
  have := sl_to (m := m) (ds := l.map intsD) (j := 2) (S := S) (k := k) (x := x) (z := z)
  rw [← List.map_take] at this
  exact this
@[simp ↓] theorem sl_losD_t4 {β : Type} {m : Bool} {l : List (List Int)} {S : Store} {k : D → Store → β} {x : Nat → Store → β} {z : β} : (slD m (losD l) none (some (.int 4)) S).cps k x z = k (losD (l.take 4)) S := by
  have := sl_to (m := m) (ds := l.map intsD) (j := 4) (S := S) (k := k) (x := x) (z := z)
  rw [← List.map_take] at this
  exact this
@[simp ↓] theorem sl_losD_l {β : Type} {m : Bool} {l : List (List Int)} {S : Store} {k : D → Store → β} {x : Nat → Store → β} {z : β} : (slD m (losD l) none (some (.int (-1))) S).cps k x z = k (losD l.dropLast) S := by
  have := slT_l (m := m) (ds := l.map intsD) (S := S) (k := k) (x := x) (z := z)
  rw [← List.map_dropLast] at this
  exact this
@[simp ↓] theorem list_losD {β : Type} {m : Bool} {l : List (List Int)} {S : Store} {k : D → Store → β} {x : Nat → Store → β} {z : β} : (biD m .list [losD l] S).cps k x z = (newL m (l.map intsD) S).cps k x z := listT_c
theorem add_losD {β : Type} {m : Bool} {a b : List (List Int)} (h : a.length + b.length ≤ 10000) {S : Store} {k : D → Store → β} {x : Nat → Store → β} {z : β} : (binD m .add (losD a) (losD b) S).cps k x z = k (losD (a ++ b)) S := by
  have := addT_c (m := m) (a := a.map intsD) (b := b.map intsD) (by simpa using h) (S := S) (k := k) (x := x) (z := z)
  rw [← List.map_append] at this
  exact this
theorem addl_losD {β : Type} {m : Bool} {v : D} {l : List (List Int)} (h : l.length ≤ 9000) {S : Store} {k : D → Store → β} {x : Nat → Store → β} {z : β} : (binD m .add (.tup [v]) (losD l) S).cps k x z = k (.tup (v :: l.map intsD)) S := by
  exact addT_c (m := m) (a := [v]) (b := l.map intsD) (by simp; omega) (S := S) (k := k) (x := x) (z := z)
theorem addr_losD {β : Type} {m : Bool} {v : D} {l : List (List Int)} (h : l.length ≤ 9000) {S : Store} {k : D → Store → β} {x : Nat → Store → β} {z : β} : (binD m .add (losD l) (.tup [v]) S).cps k x z = k (.tup (l.map intsD ++ [v])) S := by
  exact addT_c (m := m) (a := l.map intsD) (b := [v]) (by simp; omega) (S := S) (k := k) (x := x) (z := z)
theorem mul_losD {β : Type} {m : Bool} {l : List (List Int)} {j : Nat} (h : l.length * j ≤ 10000) (hj : j ≤ 1000) (ha : 0 < l.length) (ha2 : l.length ≤ 1000) {S : Store} {k : D → Store → β} {x : Nat → Store → β} {z : β} : (binD m .mul (losD l) (.int (j : Nat)) S).cps k x z = k (losD (List.replicate j l).flatten) S := by
  have := mulT_c (m := m) (a := l.map intsD) (j := j) (by simpa using h) hj (by simpa using ha) (by simpa using ha2) (S := S) (k := k) (x := x) (z := z)
  rw [show (List.replicate j (l.map intsD)).flatten = ((List.replicate j l).flatten).map intsD by rw [List.map_flatten, List.map_replicate]] at this
  exact this
@[simp ↓] theorem itr_intsD {β : Type} {l : List Int} {S : Store} {k : List D × Src → Store → β} {x : Nat → Store → β} {z : β} : (iterD (intsD l) S).cps k x z = k (l.map D.int, []) S := itr_c (.inl rfl)
@[simp ↓] theorem enum_intsD {β : Type} {l : List Int} {S : Store} {k : List D × Src → Store → β} {x : Nat → Store → β} {z : β} : (enumSD (intsD l) S).cps k x z = k (l.zipIdx.map fun p => D.tup [.int (p.2 : Nat), D.int p.1], []) S := enum_c (f := D.int)
@[simp ↓] theorem sl_intsD_1 {β : Type} {m : Bool} {l : List Int} {S : Store} {k : D → Store → β} {x : Nat → Store → β} {z : β} : (slD m (intsD l) (some (.int 1)) none S).cps k x z = k (intsD (l.drop 1)) S := by
  have := sl_from (m := m) (ds := l.map D.int) (j := 1) (S := S) (k := k) (x := x) (z := z)
  rw [← List.map_drop] at this
  exact this
@[simp ↓] theorem sl_intsD_t1 {β : Type} {m : Bool} {l : List Int} {S : Store} {k : D → Store → β} {x : Nat → Store → β} {z : β} : (slD m (intsD l) none (some (.int 1)) S).cps k x z = k (intsD (l.take 1)) S := by
  have := sl_to (m := m) (ds := l.map D.int) (j := 1) (S := S) (k := k) (x := x) (z := z)
  rw [← List.map_take] at this
  exact this
@[simp ↓] theorem sl_intsD_t2 {β : Type} {m : Bool} {l : List Int} {S : Store} {k : D → Store → β} {x : Nat → Store → β} {z : β} : (slD m (intsD l) none (some (.int 2)) S).cps k x z = k (intsD (l.take 2)) S := by
  have := sl_to (m := m) (ds := l.map D.int) (j := 2) (S := S) (k := k) (x := x) (z := z)
  rw [← List.map_take] at this
  exact this
@[simp ↓] theorem sl_intsD_t4 {β : Type} {m : Bool} {l : List Int} {S : Store} {k : D → Store → β} {x : Nat → Store → β} {z : β} : (slD m (intsD l) none (some (.int 4)) S).cps k x z = k (intsD (l.take 4)) S := by
  have := sl_to (m := m) (ds := l.map D.int) (j := 4) (S := S) (k := k) (x := x) (z := z)
  rw [← List.map_take] at this
  exact this
@[simp ↓] theorem sl_intsD_l {β : Type} {m : Bool} {l : List Int} {S : Store} {k : D → Store → β} {x : Nat → Store → β} {z : β} : (slD m (intsD l) none (some (.int (-1))) S).cps k x z = k (intsD l.dropLast) S := by
  have := slT_l (m := m) (ds := l.map D.int) (S := S) (k := k) (x := x) (z := z)
  rw [← List.map_dropLast] at this
  exact this
@[simp ↓] theorem list_intsD {β : Type} {m : Bool} {l : List Int} {S : Store} {k : D → Store → β} {x : Nat → Store → β} {z : β} : (biD m .list [intsD l] S).cps k x z = (newL m (l.map D.int) S).cps k x z := listT_c
theorem add_intsD {β : Type} {m : Bool} {a b : List Int} (h : a.length + b.length ≤ 10000) {S : Store} {k : D → Store → β} {x : Nat → Store → β} {z : β} : (binD m .add (intsD a) (intsD b) S).cps k x z = k (intsD (a ++ b)) S := by
  have := addT_c (m := m) (a := a.map D.int) (b := b.map D.int) (by simpa using h) (S := S) (k := k) (x := x) (z := z)
  rw [← List.map_append] at this
  exact this
theorem addl_intsD {β : Type} {m : Bool} {v : D} {l : List Int} (h : l.length ≤ 9000) {S : Store} {k : D → Store → β} {x : Nat → Store → β} {z : β} : (binD m .add (.tup [v]) (intsD l) S).cps k x z = k (.tup (v :: l.map D.int)) S := by
  exact addT_c (m := m) (a := [v]) (b := l.map D.int) (by simp; omega) (S := S) (k := k) (x := x) (z := z)
theorem addr_intsD {β : Type} {m : Bool} {v : D} {l : List Int} (h : l.length ≤ 9000) {S : Store} {k : D → Store → β} {x : Nat → Store → β} {z : β} : (binD m .add (intsD l) (.tup [v]) S).cps k x z = k (.tup (l.map D.int ++ [v])) S := by
  exact addT_c (m := m) (a := l.map D.int) (b := [v]) (by simp; omega) (S := S) (k := k) (x := x) (z := z)
theorem mul_intsD {β : Type} {m : Bool} {l : List Int} {j : Nat} (h : l.length * j ≤ 10000) (hj : j ≤ 1000) (ha : 0 < l.length) (ha2 : l.length ≤ 1000) {S : Store} {k : D → Store → β} {x : Nat → Store → β} {z : β} : (binD m .mul (intsD l) (.int (j : Nat)) S).cps k x z = k (intsD (List.replicate j l).flatten) S := by
  have := mulT_c (m := m) (a := l.map D.int) (j := j) (by simpa using h) hj (by simpa using ha) (by simpa using ha2) (S := S) (k := k) (x := x) (z := z)
  rw [show (List.replicate j (l.map D.int)).flatten = ((List.replicate j l).flatten).map D.int by rw [List.map_flatten, List.map_replicate]] at this
  exact this
@[simp ↓] theorem len_intsD {β : Type} {m : Bool} {l : List Int} {S : Store} {k : D → Store → β} {x : Nat → Store → β} {z : β} : (biD m .len [intsD l] S).cps k x z = k (.int (l.length : Nat)) S := by
  show (biD m .len [.tup (l.map D.int)] S).cps k x z = _
  rw [len_seq_c, List.length_map]
@[simp] theorem isNon_intsD {l : List Int} : isNonD (intsD l) = false := rfl
@[simp ↓] theorem itr_natsD {β : Type} {l : List Nat} {S : Store} {k : List D × Src → Store → β} {x : Nat → Store → β} {z : β} : (iterD (natsD l) S).cps k x z = k (l.map (fun a : Nat => D.int (a : Nat)), []) S := itr_c (.inl rfl)
@[simp ↓] theorem enum_natsD {β : Type} {l : List Nat} {S : Store} {k : List D × Src → Store → β} {x : Nat → Store → β} {z : β} : (enumSD (natsD l) S).cps k x z = k (l.zipIdx.map fun p => D.tup [.int (p.2 : Nat), (fun a : Nat => D.int (a : Nat)) p.1], []) S := enum_c (f := (fun a : Nat => D.int (a : Nat)))
@[simp ↓] theorem sl_natsD_1 {β : Type} {m : Bool} {l : List Nat} {S : Store} {k : D → Store → β} {x : Nat → Store → β} {z : β} : (slD m (natsD l) (some (.int 1)) none S).cps k x z = k (natsD (l.drop 1)) S := by
  have := sl_from (m := m) (ds := l.map (fun a : Nat => D.int (a : Nat))) (j := 1) (S := S) (k := k) (x := x) (z := z)
  rw [← List.map_drop] at this
  exact this
@[simp ↓] theorem sl_natsD_t1 {β : Type} {m : Bool} {l : List Nat} {S : Store} {k : D → Store → β} {x : Nat → Store → β} {z : β} : (slD m (natsD l) none (some (.int 1)) S).cps k x z = k (natsD (l.take 1)) S := by
  have := sl_to (m := m) (ds := l.map (fun a : Nat => D.int (a : Nat))) (j := 1) (S := S) (k := k) (x := x) (z := z)
  rw [← List.map_take] at this
  exact this
@[simp ↓] theorem sl_natsD_t2 {β : Type} {m : Bool} {l : List Nat} {S : Store} {k : D → Store → β} {x : Nat → Store → β} {z : β} : (slD m (natsD l) none (some (.int 2)) S).cps k x z = k (natsD (l.take 2)) S := by
  have := sl_to (m := m) (ds := l.map (fun a : Nat => D.int (a : Nat))) (j := 2) (S := S) (k := k) (x := x) (z := z)
  rw [← List.map_take] at this
  exact this
@[simp ↓] theorem sl_natsD_t4 {β : Type} {m : Bool} {l : List Nat} {S : Store} {k : D → Store → β} {x : Nat → Store → β} {z : β} : (slD m (natsD l) none (some (.int 4)) S).cps k x z = k (natsD (l.take 4)) S := by
  have := sl_to (m := m) (ds := l.map (fun a : Nat => D.int (a : Nat))) (j := 4) (S := S) (k := k) (x := x) (z := z)
  rw [← List.map_take] at this
  exact this
@[simp ↓] theorem sl_natsD_l {β : Type} {m : Bool} {l : List Nat} {S : Store} {k : D → Store → β} {x : Nat → Store → β} {z : β} : (slD m (natsD l) none (some (.int (-1))) S).cps k x z = k (natsD l.dropLast) S := by
  have := slT_l (m := m) (ds := l.map (fun a : Nat => D.int (a : Nat))) (S := S) (k := k) (x := x) (z := z)
  rw [← List.map_dropLast] at this
  exact this
@[simp ↓] theorem list_natsD {β : Type} {m : Bool} {l : List Nat} {S : Store} {k : D → Store → β} {x : Nat → Store → β} {z : β} : (biD m .list [natsD l] S).cps k x z = (newL m (l.map (fun a : Nat => D.int (a : Nat))) S).cps k x z := listT_c
theorem add_natsD {β : Type} {m : Bool} {a b : List Nat} (h : a.length + b.length ≤ 10000) {S : Store} {k : D → Store → β} {x : Nat → Store → β} {z : β} : (binD m .add (natsD a) (natsD b) S).cps k x z = k (natsD (a ++ b)) S := by
  have := addT_c (m := m) (a := a.map (fun a : Nat => D.int (a : Nat))) (b := b.map (fun a : Nat => D.int (a : Nat))) (by simpa using h) (S := S) (k := k) (x := x) (z := z)
  rw [← List.map_append] at this
  exact this
theorem addl_natsD {β : Type} {m : Bool} {v : D} {l : List Nat} (h : l.length ≤ 9000) {S : Store} {k : D → Store → β} {x : Nat → Store → β} {z : β} : (binD m .add (.tup [v]) (natsD l) S).cps k x z = k (.tup (v :: l.map (fun a : Nat => D.int (a : Nat)))) S := by
  exact addT_c (m := m) (a := [v]) (b := l.map (fun a : Nat => D.int (a : Nat))) (by simp; omega) (S := S) (k := k) (x := x) (z := z)
theorem addr_natsD {β : Type} {m : Bool} {v : D} {l : List Nat} (h : l.length ≤ 9000) {S : Store} {k : D → Store → β} {x : Nat → Store → β} {z : β} : (binD m .add (natsD l) (.tup [v]) S).cps k x z = k (.tup (l.map (fun a : Nat => D.int (a : Nat)) ++ [v])) S := by
  exact addT_c (m := m) (a := l.map (fun a : Nat => D.int (a : Nat))) (b := [v]) (by simp; omega) (S := S) (k := k) (x := x) (z := z)
theorem mul_natsD {β : Type} {m : Bool} {l : List Nat} {j : Nat} (h : l.length * j ≤ 10000) (hj : j ≤ 1000) (ha : 0 < l.length) (ha2 : l.length ≤ 1000) {S : Store} {k : D → Store → β} {x : Nat → Store → β} {z : β} : (binD m .mul (natsD l) (.int (j : Nat)) S).cps k x z = k (natsD (List.replicate j l).flatten) S := by
  have := mulT_c (m := m) (a := l.map (fun a : Nat => D.int (a : Nat))) (j := j) (by simpa using h) hj (by simpa using ha) (by simpa using ha2) (S := S) (k := k) (x := x) (z := z)
  rw [show (List.replicate j (l.map (fun a : Nat => D.int (a : Nat)))).flatten = ((List.replicate j l).flatten).map (fun a : Nat => D.int (a : Nat)) by rw [List.map_flatten, List.map_replicate]] at this
  exact this
@[simp ↓] theorem len_natsD {β : Type} {m : Bool} {l : List Nat} {S : Store} {k : D → Store → β} {x : Nat → Store → β} {z : β} : (biD m .len [natsD l] S).cps k x z = k (.int (l.length : Nat)) S := by
  show (biD m .len [.tup (l.map (fun a : Nat => D.int (a : Nat)))] S).cps k x z = _
  rw [len_seq_c, List.length_map]
@[simp] theorem isNon_natsD {l : List Nat} : isNonD (natsD l) = false := rfl
@[simp ↓] theorem nebl_c {β : Type} {p q : Bool} {S : Store} {k : D → Store → β} {x : Nat → Store → β} {z : β} : (cmpD .ne (.bl p) (.bl q) S).cps k x z = k (.bl (p != q)) S := cps_of cmp_nebl
theorem lay_InvalidModel : PyData.canLay0 (.str "InvalidModel") = true := by decide +kernel
@[simp ↓] theorem nes_InvalidModel {β : Type} {S : Store} {k : D → Store → β} {x : Nat → Store → β} {z : β} : (cmpD .ne (.str "InvalidModel") (.str "InvalidModel") S).cps k x z = k (.bl false) S := by
  rw [cmp_ne_sd (n := 0) (x := .str "InvalidModel") (y := .str "InvalidModel") lay_InvalidModel lay_InvalidModel (by decide), tv_no (fun h => h rfl), cps_ok]
@[simp ↓] theorem eqs_InvalidModel {β : Type} {S : Store} {k : D → Store → β} {x : Nat → Store → β} {z : β} : (cmpD .eq (.str "InvalidModel") (.str "InvalidModel") S).cps k x z = k (.bl true) S := by
  rw [cmp_eq_sd (n := 0) (x := .str "InvalidModel") (y := .str "InvalidModel") lay_InvalidModel lay_InvalidModel (by decide), tv_of rfl, cps_ok]
theorem lay_InvalidLosses : PyData.canLay0 (.str "InvalidLosses") = true := by decide +kernel
@[simp ↓] theorem nes_InvalidLosses {β : Type} {S : Store} {k : D → Store → β} {x : Nat → Store → β} {z : β} : (cmpD .ne (.str "InvalidLosses") (.str "InvalidLosses") S).cps k x z = k (.bl false) S := by
  rw [cmp_ne_sd (n := 0) (x := .str "InvalidLosses") (y := .str "InvalidLosses") lay_InvalidLosses lay_InvalidLosses (by decide), tv_no (fun h => h rfl), cps_ok]
@[simp ↓] theorem eqs_InvalidLosses {β : Type} {S : Store} {k : D → Store → β} {x : Nat → Store → β} {z : β} : (cmpD .eq (.str "InvalidLosses") (.str "InvalidLosses") S).cps k x z = k (.bl true) S := by
  rw [cmp_eq_sd (n := 0) (x := .str "InvalidLosses") (y := .str "InvalidLosses") lay_InvalidLosses lay_InvalidLosses (by decide), tv_of rfl, cps_ok]
theorem lay_InvalidRule : PyData.canLay0 (.str "InvalidRule") = true := by decide +kernel
@[simp ↓] theorem nes_InvalidRule {β : Type} {S : Store} {k : D → Store → β} {x : Nat → Store → β} {z : β} : (cmpD .ne (.str "InvalidRule") (.str "InvalidRule") S).cps k x z = k (.bl false) S := by
  rw [cmp_ne_sd (n := 0) (x := .str "InvalidRule") (y := .str "InvalidRule") lay_InvalidRule lay_InvalidRule (by decide), tv_no (fun h => h rfl), cps_ok]
@[simp ↓] theorem eqs_InvalidRule {β : Type} {S : Store} {k : D → Store → β} {x : Nat → Store → β} {z : β} : (cmpD .eq (.str "InvalidRule") (.str "InvalidRule") S).cps k x z = k (.bl true) S := by
  rw [cmp_eq_sd (n := 0) (x := .str "InvalidRule") (y := .str "InvalidRule") lay_InvalidRule lay_InvalidRule (by decide), tv_of rfl, cps_ok]
theorem lay_InvalidMixed : PyData.canLay0 (.str "InvalidMixed") = true := by decide +kernel
@[simp ↓] theorem nes_InvalidMixed {β : Type} {S : Store} {k : D → Store → β} {x : Nat → Store → β} {z : β} : (cmpD .ne (.str "InvalidMixed") (.str "InvalidMixed") S).cps k x z = k (.bl false) S := by
  rw [cmp_ne_sd (n := 0) (x := .str "InvalidMixed") (y := .str "InvalidMixed") lay_InvalidMixed lay_InvalidMixed (by decide), tv_no (fun h => h rfl), cps_ok]
@[simp ↓] theorem eqs_InvalidMixed {β : Type} {S : Store} {k : D → Store → β} {x : Nat → Store → β} {z : β} : (cmpD .eq (.str "InvalidMixed") (.str "InvalidMixed") S).cps k x z = k (.bl true) S := by
  rw [cmp_eq_sd (n := 0) (x := .str "InvalidMixed") (y := .str "InvalidMixed") lay_InvalidMixed lay_InvalidMixed (by decide), tv_of rfl, cps_ok]
theorem lay_InvalidBelief : PyData.canLay0 (.str "InvalidBelief") = true := by decide +kernel
@[simp ↓] theorem nes_InvalidBelief {β : Type} {S : Store} {k : D → Store → β} {x : Nat → Store → β} {z : β} : (cmpD .ne (.str "InvalidBelief") (.str "InvalidBelief") S).cps k x z = k (.bl false) S := by
  rw [cmp_ne_sd (n := 0) (x := .str "InvalidBelief") (y := .str "InvalidBelief") lay_InvalidBelief lay_InvalidBelief (by decide), tv_no (fun h => h rfl), cps_ok]
@[simp ↓] theorem eqs_InvalidBelief {β : Type} {S : Store} {k : D → Store → β} {x : Nat → Store → β} {z : β} : (cmpD .eq (.str "InvalidBelief") (.str "InvalidBelief") S).cps k x z = k (.bl true) S := by
  rw [cmp_eq_sd (n := 0) (x := .str "InvalidBelief") (y := .str "InvalidBelief") lay_InvalidBelief lay_InvalidBelief (by decide), tv_of rfl, cps_ok]
theorem lay_InvalidObservation : PyData.canLay0 (.str "InvalidObservation") = true := by decide +kernel
@[simp ↓] theorem nes_InvalidObservation {β : Type} {S : Store} {k : D → Store → β} {x : Nat → Store → β} {z : β} : (cmpD .ne (.str "InvalidObservation") (.str "InvalidObservation") S).cps k x z = k (.bl false) S := by
  rw [cmp_ne_sd (n := 0) (x := .str "InvalidObservation") (y := .str "InvalidObservation") lay_InvalidObservation lay_InvalidObservation (by decide), tv_no (fun h => h rfl), cps_ok]
@[simp ↓] theorem eqs_InvalidObservation {β : Type} {S : Store} {k : D → Store → β} {x : Nat → Store → β} {z : β} : (cmpD .eq (.str "InvalidObservation") (.str "InvalidObservation") S).cps k x z = k (.bl true) S := by
  rw [cmp_eq_sd (n := 0) (x := .str "InvalidObservation") (y := .str "InvalidObservation") lay_InvalidObservation lay_InvalidObservation (by decide), tv_of rfl, cps_ok]
theorem lay_InvalidGrouping : PyData.canLay0 (.str "InvalidGrouping") = true := by decide +kernel
@[simp ↓] theorem nes_InvalidGrouping {β : Type} {S : Store} {k : D → Store → β} {x : Nat → Store → β} {z : β} : (cmpD .ne (.str "InvalidGrouping") (.str "InvalidGrouping") S).cps k x z = k (.bl false) S := by
  rw [cmp_ne_sd (n := 0) (x := .str "InvalidGrouping") (y := .str "InvalidGrouping") lay_InvalidGrouping lay_InvalidGrouping (by decide), tv_no (fun h => h rfl), cps_ok]
@[simp ↓] theorem eqs_InvalidGrouping {β : Type} {S : Store} {k : D → Store → β} {x : Nat → Store → β} {z : β} : (cmpD .eq (.str "InvalidGrouping") (.str "InvalidGrouping") S).cps k x z = k (.bl true) S := by
  rw [cmp_eq_sd (n := 0) (x := .str "InvalidGrouping") (y := .str "InvalidGrouping") lay_InvalidGrouping lay_InvalidGrouping (by decide), tv_of rfl, cps_ok]
theorem lay_NotSufficient : PyData.canLay0 (.str "NotSufficient") = true := by decide +kernel
@[simp ↓] theorem nes_NotSufficient {β : Type} {S : Store} {k : D → Store → β} {x : Nat → Store → β} {z : β} : (cmpD .ne (.str "NotSufficient") (.str "NotSufficient") S).cps k x z = k (.bl false) S := by
  rw [cmp_ne_sd (n := 0) (x := .str "NotSufficient") (y := .str "NotSufficient") lay_NotSufficient lay_NotSufficient (by decide), tv_no (fun h => h rfl), cps_ok]
@[simp ↓] theorem eqs_NotSufficient {β : Type} {S : Store} {k : D → Store → β} {x : Nat → Store → β} {z : β} : (cmpD .eq (.str "NotSufficient") (.str "NotSufficient") S).cps k x z = k (.bl true) S := by
  rw [cmp_eq_sd (n := 0) (x := .str "NotSufficient") (y := .str "NotSufficient") lay_NotSufficient lay_NotSufficient (by decide), tv_of rfl, cps_ok]
theorem lay_InvalidNumbers : PyData.canLay0 (.str "InvalidNumbers") = true := by decide +kernel
@[simp ↓] theorem nes_InvalidNumbers {β : Type} {S : Store} {k : D → Store → β} {x : Nat → Store → β} {z : β} : (cmpD .ne (.str "InvalidNumbers") (.str "InvalidNumbers") S).cps k x z = k (.bl false) S := by
  rw [cmp_ne_sd (n := 0) (x := .str "InvalidNumbers") (y := .str "InvalidNumbers") lay_InvalidNumbers lay_InvalidNumbers (by decide), tv_no (fun h => h rfl), cps_ok]
@[simp ↓] theorem eqs_InvalidNumbers {β : Type} {S : Store} {k : D → Store → β} {x : Nat → Store → β} {z : β} : (cmpD .eq (.str "InvalidNumbers") (.str "InvalidNumbers") S).cps k x z = k (.bl true) S := by
  rw [cmp_eq_sd (n := 0) (x := .str "InvalidNumbers") (y := .str "InvalidNumbers") lay_InvalidNumbers lay_InvalidNumbers (by decide), tv_of rfl, cps_ok]
theorem lay_InvalidEstimate : PyData.canLay0 (.str "InvalidEstimate") = true := by decide +kernel
@[simp ↓] theorem nes_InvalidEstimate {β : Type} {S : Store} {k : D → Store → β} {x : Nat → Store → β} {z : β} : (cmpD .ne (.str "InvalidEstimate") (.str "InvalidEstimate") S).cps k x z = k (.bl false) S := by
  rw [cmp_ne_sd (n := 0) (x := .str "InvalidEstimate") (y := .str "InvalidEstimate") lay_InvalidEstimate lay_InvalidEstimate (by decide), tv_no (fun h => h rfl), cps_ok]
@[simp ↓] theorem eqs_InvalidEstimate {β : Type} {S : Store} {k : D → Store → β} {x : Nat → Store → β} {z : β} : (cmpD .eq (.str "InvalidEstimate") (.str "InvalidEstimate") S).cps k x z = k (.bl true) S := by
  rw [cmp_eq_sd (n := 0) (x := .str "InvalidEstimate") (y := .str "InvalidEstimate") lay_InvalidEstimate lay_InvalidEstimate (by decide), tv_of rfl, cps_ok]
theorem lay_InvalidState : PyData.canLay0 (.str "InvalidState") = true := by decide +kernel
@[simp ↓] theorem nes_InvalidState {β : Type} {S : Store} {k : D → Store → β} {x : Nat → Store → β} {z : β} : (cmpD .ne (.str "InvalidState") (.str "InvalidState") S).cps k x z = k (.bl false) S := by
  rw [cmp_ne_sd (n := 0) (x := .str "InvalidState") (y := .str "InvalidState") lay_InvalidState lay_InvalidState (by decide), tv_no (fun h => h rfl), cps_ok]
@[simp ↓] theorem eqs_InvalidState {β : Type} {S : Store} {k : D → Store → β} {x : Nat → Store → β} {z : β} : (cmpD .eq (.str "InvalidState") (.str "InvalidState") S).cps k x z = k (.bl true) S := by
  rw [cmp_eq_sd (n := 0) (x := .str "InvalidState") (y := .str "InvalidState") lay_InvalidState lay_InvalidState (by decide), tv_of rfl, cps_ok]
theorem lay_ZeroChance : PyData.canLay0 (.str "ZeroChance") = true := by decide +kernel
@[simp ↓] theorem nes_ZeroChance {β : Type} {S : Store} {k : D → Store → β} {x : Nat → Store → β} {z : β} : (cmpD .ne (.str "ZeroChance") (.str "ZeroChance") S).cps k x z = k (.bl false) S := by
  rw [cmp_ne_sd (n := 0) (x := .str "ZeroChance") (y := .str "ZeroChance") lay_ZeroChance lay_ZeroChance (by decide), tv_no (fun h => h rfl), cps_ok]
@[simp ↓] theorem eqs_ZeroChance {β : Type} {S : Store} {k : D → Store → β} {x : Nat → Store → β} {z : β} : (cmpD .eq (.str "ZeroChance") (.str "ZeroChance") S).cps k x z = k (.bl true) S := by
  rw [cmp_eq_sd (n := 0) (x := .str "ZeroChance") (y := .str "ZeroChance") lay_ZeroChance lay_ZeroChance (by decide), tv_of rfl, cps_ok]
theorem lay_NoEstimate : PyData.canLay0 (.str "NoEstimate") = true := by decide +kernel
@[simp ↓] theorem nes_NoEstimate {β : Type} {S : Store} {k : D → Store → β} {x : Nat → Store → β} {z : β} : (cmpD .ne (.str "NoEstimate") (.str "NoEstimate") S).cps k x z = k (.bl false) S := by
  rw [cmp_ne_sd (n := 0) (x := .str "NoEstimate") (y := .str "NoEstimate") lay_NoEstimate lay_NoEstimate (by decide), tv_no (fun h => h rfl), cps_ok]
@[simp ↓] theorem eqs_NoEstimate {β : Type} {S : Store} {k : D → Store → β} {x : Nat → Store → β} {z : β} : (cmpD .eq (.str "NoEstimate") (.str "NoEstimate") S).cps k x z = k (.bl true) S := by
  rw [cmp_eq_sd (n := 0) (x := .str "NoEstimate") (y := .str "NoEstimate") lay_NoEstimate lay_NoEstimate (by decide), tv_of rfl, cps_ok]
theorem lay_UnlikeStates : PyData.canLay0 (.str "UnlikeStates") = true := by decide +kernel
@[simp ↓] theorem nes_UnlikeStates {β : Type} {S : Store} {k : D → Store → β} {x : Nat → Store → β} {z : β} : (cmpD .ne (.str "UnlikeStates") (.str "UnlikeStates") S).cps k x z = k (.bl false) S := by
  rw [cmp_ne_sd (n := 0) (x := .str "UnlikeStates") (y := .str "UnlikeStates") lay_UnlikeStates lay_UnlikeStates (by decide), tv_no (fun h => h rfl), cps_ok]
@[simp ↓] theorem eqs_UnlikeStates {β : Type} {S : Store} {k : D → Store → β} {x : Nat → Store → β} {z : β} : (cmpD .eq (.str "UnlikeStates") (.str "UnlikeStates") S).cps k x z = k (.bl true) S := by
  rw [cmp_eq_sd (n := 0) (x := .str "UnlikeStates") (y := .str "UnlikeStates") lay_UnlikeStates lay_UnlikeStates (by decide), tv_of rfl, cps_ok]
theorem lay_TooLarge : PyData.canLay0 (.str "TooLarge") = true := by decide +kernel
@[simp ↓] theorem nes_TooLarge {β : Type} {S : Store} {k : D → Store → β} {x : Nat → Store → β} {z : β} : (cmpD .ne (.str "TooLarge") (.str "TooLarge") S).cps k x z = k (.bl false) S := by
  rw [cmp_ne_sd (n := 0) (x := .str "TooLarge") (y := .str "TooLarge") lay_TooLarge lay_TooLarge (by decide), tv_no (fun h => h rfl), cps_ok]
@[simp ↓] theorem eqs_TooLarge {β : Type} {S : Store} {k : D → Store → β} {x : Nat → Store → β} {z : β} : (cmpD .eq (.str "TooLarge") (.str "TooLarge") S).cps k x z = k (.bl true) S := by
  rw [cmp_eq_sd (n := 0) (x := .str "TooLarge") (y := .str "TooLarge") lay_TooLarge lay_TooLarge (by decide), tv_of rfl, cps_ok]
theorem lay_InvalidTable : PyData.canLay0 (.str "InvalidTable") = true := by decide +kernel
@[simp ↓] theorem nes_InvalidTable {β : Type} {S : Store} {k : D → Store → β} {x : Nat → Store → β} {z : β} : (cmpD .ne (.str "InvalidTable") (.str "InvalidTable") S).cps k x z = k (.bl false) S := by
  rw [cmp_ne_sd (n := 0) (x := .str "InvalidTable") (y := .str "InvalidTable") lay_InvalidTable lay_InvalidTable (by decide), tv_no (fun h => h rfl), cps_ok]
@[simp ↓] theorem eqs_InvalidTable {β : Type} {S : Store} {k : D → Store → β} {x : Nat → Store → β} {z : β} : (cmpD .eq (.str "InvalidTable") (.str "InvalidTable") S).cps k x z = k (.bl true) S := by
  rw [cmp_eq_sd (n := 0) (x := .str "InvalidTable") (y := .str "InvalidTable") lay_InvalidTable lay_InvalidTable (by decide), tv_of rfl, cps_ok]
theorem lay_Impossible : PyData.canLay0 (.str "Impossible") = true := by decide +kernel
@[simp ↓] theorem nes_Impossible {β : Type} {S : Store} {k : D → Store → β} {x : Nat → Store → β} {z : β} : (cmpD .ne (.str "Impossible") (.str "Impossible") S).cps k x z = k (.bl false) S := by
  rw [cmp_ne_sd (n := 0) (x := .str "Impossible") (y := .str "Impossible") lay_Impossible lay_Impossible (by decide), tv_no (fun h => h rfl), cps_ok]
@[simp ↓] theorem eqs_Impossible {β : Type} {S : Store} {k : D → Store → β} {x : Nat → Store → β} {z : β} : (cmpD .eq (.str "Impossible") (.str "Impossible") S).cps k x z = k (.bl true) S := by
  rw [cmp_eq_sd (n := 0) (x := .str "Impossible") (y := .str "Impossible") lay_Impossible lay_Impossible (by decide), tv_of rfl, cps_ok]
theorem lay_NothingToUndo : PyData.canLay0 (.str "NothingToUndo") = true := by decide +kernel
@[simp ↓] theorem nes_NothingToUndo {β : Type} {S : Store} {k : D → Store → β} {x : Nat → Store → β} {z : β} : (cmpD .ne (.str "NothingToUndo") (.str "NothingToUndo") S).cps k x z = k (.bl false) S := by
  rw [cmp_ne_sd (n := 0) (x := .str "NothingToUndo") (y := .str "NothingToUndo") lay_NothingToUndo lay_NothingToUndo (by decide), tv_no (fun h => h rfl), cps_ok]
@[simp ↓] theorem eqs_NothingToUndo {β : Type} {S : Store} {k : D → Store → β} {x : Nat → Store → β} {z : β} : (cmpD .eq (.str "NothingToUndo") (.str "NothingToUndo") S).cps k x z = k (.bl true) S := by
  rw [cmp_eq_sd (n := 0) (x := .str "NothingToUndo") (y := .str "NothingToUndo") lay_NothingToUndo lay_NothingToUndo (by decide), tv_of rfl, cps_ok]
theorem lay_ParseError : PyData.canLay0 (.str "ParseError") = true := by decide +kernel
@[simp ↓] theorem nes_ParseError {β : Type} {S : Store} {k : D → Store → β} {x : Nat → Store → β} {z : β} : (cmpD .ne (.str "ParseError") (.str "ParseError") S).cps k x z = k (.bl false) S := by
  rw [cmp_ne_sd (n := 0) (x := .str "ParseError") (y := .str "ParseError") lay_ParseError lay_ParseError (by decide), tv_no (fun h => h rfl), cps_ok]
@[simp ↓] theorem eqs_ParseError {β : Type} {S : Store} {k : D → Store → β} {x : Nat → Store → β} {z : β} : (cmpD .eq (.str "ParseError") (.str "ParseError") S).cps k x z = k (.bl true) S := by
  rw [cmp_eq_sd (n := 0) (x := .str "ParseError") (y := .str "ParseError") lay_ParseError lay_ParseError (by decide), tv_of rfl, cps_ok]
end Mn

/-! Plain: what is a fraction, what are chances, what is a model. -/
local macro_rules
  | `(tactic| simp_arith only [$args,*]) => `(tactic| simp only [↓Mn.tcaseB_bl, ↓Mn.cps_ok, ↓Mn.cps_exc, ↓Mn.cps_stuck, ↓Mn.bind_is, ↓Mn.st_is, ↓Mn.only_is, ↓Mn.cps_cps, ↓Mn.bind_cps, ↓Mn.tcase_some, ↓Mn.cps_ite, ↓Mn.rdV_some, ↓Mn.ev_var, ↓Mn.ev_frz, ↓Mn.ev_cst, ↓Mn.ev_tup, ↓Mn.ev_lst, ↓Mn.ev_bin, ↓Mn.ev_neg, ↓Mn.ev_not, ↓Mn.ev_cmp, ↓Mn.ev_chain, ↓Mn.ev_ite, ↓Mn.ev_and, ↓Mn.ev_or, ↓Mn.ev_a1, ↓Mn.ev_r1, ↓Mn.ev_a2, ↓Mn.ev_r2, ↓Mn.ev_ix, ↓Mn.ev_sl, ↓Mn.ev_rev, ↓Mn.ev_call, ↓Mn.ev_bi, ↓Mn.ev_isi, ↓Mn.ev_bm, ↓Mn.ev_lc, ↓Mn.ev_nil, ↓Mn.ev_cons, ↓Mn.ev_o0, ↓Mn.ev_o1, ↓Mn.ev_iexp, ↓Mn.ev_irng1, ↓Mn.ev_irng2, ↓Mn.ev_ienum, ↓Mn.ev_izip, ↓Mn.tcase_bl, ↓Mn.tcase_int, ↓Mn.tcase_non, ↓Mn.tcase_tup, ↓Mn.tcase_lst, ↓Mn.tcase_scr, ↓Mn.bin_add_c, ↓Mn.bin_sub_c, ↓Mn.neg_int_c, ↓Mn.cmp_lt_c, ↓Mn.cmp_le_c, ↓Mn.cmp_gt_c, ↓Mn.cmp_ge_c, ↓Mn.cmp_eqi_c, ↓Mn.cmp_nei_c, ↓Mn.itr_tup_c, ↓Mn.itr_lst_c, ↓Mn.itr_scr_c, ↓Mn.len_seq_c, ↓Mn.len_lst_c, ↓Mn.len_scr_c, ↓Mn.bi_abs_c, ↓Mn.ofO_some_c, ↓Mn.newT_0_c, ↓Mn.newL_0_c, ↓Mn.newT_1_c, ↓Mn.newL_1_c, ↓Mn.newT_2_c, ↓Mn.newL_2_c, ↓Mn.newT_3_c, ↓Mn.newL_3_c, ↓Mn.newT_4_c, ↓Mn.newL_4_c, ↓Mn.newT_5_c, ↓Mn.newL_5_c, ↓Mn.newT_6_c, ↓Mn.newL_6_c, ↓Mn.newT_7_c, ↓Mn.newL_7_c, ↓Mn.newT_8_c, ↓Mn.newL_8_c, ↓Mn.newT_9_c, ↓Mn.newL_9_c, ↓Mn.isi_non_int_c, ↓Mn.isi_non_bool_c, ↓Mn.isi_non_str_c, ↓Mn.isi_non_tuple_c, ↓Mn.isi_non_list_c, ↓Mn.isi_bl_int_c, ↓Mn.isi_bl_bool_c, ↓Mn.isi_bl_str_c, ↓Mn.isi_bl_tuple_c, ↓Mn.isi_bl_list_c, ↓Mn.isi_int_int_c, ↓Mn.isi_int_bool_c, ↓Mn.isi_int_str_c, ↓Mn.isi_int_tuple_c, ↓Mn.isi_int_list_c, ↓Mn.isi_str_int_c, ↓Mn.isi_str_bool_c, ↓Mn.isi_str_str_c, ↓Mn.isi_str_tuple_c, ↓Mn.isi_str_list_c, ↓Mn.isi_tup_int_c, ↓Mn.isi_tup_bool_c, ↓Mn.isi_tup_str_c, ↓Mn.isi_tup_tuple_c, ↓Mn.isi_tup_list_c, ↓Mn.isi_lst_int_c, ↓Mn.isi_lst_bool_c, ↓Mn.isi_lst_str_c, ↓Mn.isi_lst_tuple_c, ↓Mn.isi_lst_list_c, ↓Mn.ix_t0_c, ↓Mn.ix_t1_c, ↓Mn.ix_l0_c, ↓Mn.ix_l1_c, ↓Mn.wp_nx, ↓Mn.wp_rt, ↓Mn.wp_exc, ↓Mn.wp_stuck, ↓Mn.wp_ite, ↓Mn.wpV_zero, ↓Mn.wpV_succ, ↓Mn.wpB_one, ↓Mn.wpB_2, ↓Mn.wpB_3, ↓Mn.wp_nil, ↓Mn.wp_cons, ↓Mn.wp_asg, ↓Mn.wp_put, ↓Mn.wp_asgT, ↓Mn.wp_tupS, ↓Mn.wp_ts0, ↓Mn.wp_tsV, ↓Mn.wp_tsS, ↓Mn.wp_par, ↓Mn.wp_expr, ↓Mn.wp_ret, ↓Mn.wp_if, ↓Mn.wp_for, ↓Mn.wp_while, ↓Mn.wp_rais, ↓Mn.wp_try, ↓Mn.hnd_cons, ↓Mn.enum_c, ↓Mn.enumL_c, ↓Mn.tuple_c, ↓Mn.tupleT_c, ↓Mn.fr_ix0, ↓Mn.fr_ix1, ↓Mn.eq_fr_c, ↓Mn.ne_fr_c, ↓Mn.ix_row, ↓Mn.len_row, ↓Mn.len_mdl, ↓Mn.len_los, ↓Mn.ix_mdl0, ↓Mn.isi_row_tuple, ↓Mn.cmp_is_c, ↓Mn.cmp_isnot_c, ↓Mn.cell_tup_c, ↓Mn.newL_nil_c, ↓Mn.slT_1, ↓Mn.slT_t1, ↓Mn.slT_t2, ↓Mn.slT_t4, ↓Mn.slT_l, ↓Mn.listT_c, ↓Mn.listL_c, ↓Mn.itr_rowD, ↓Mn.enum_rowD, ↓Mn.sl_rowD_1, ↓Mn.sl_rowD_t1, ↓Mn.sl_rowD_t2, ↓Mn.sl_rowD_t4, ↓Mn.sl_rowD_l, ↓Mn.list_rowD, ↓Mn.itr_mdl, ↓Mn.enum_mdl, ↓Mn.sl_mdl_1, ↓Mn.sl_mdl_t1, ↓Mn.sl_mdl_t2, ↓Mn.sl_mdl_t4, ↓Mn.sl_mdl_l, ↓Mn.list_mdl, ↓Mn.itr_losD, ↓Mn.enum_losD, ↓Mn.sl_losD_1, ↓Mn.sl_losD_t1, ↓Mn.sl_losD_t2, ↓Mn.sl_losD_t4, ↓Mn.sl_losD_l, ↓Mn.list_losD, ↓Mn.itr_intsD, ↓Mn.enum_intsD, ↓Mn.sl_intsD_1, ↓Mn.sl_intsD_t1, ↓Mn.sl_intsD_t2, ↓Mn.sl_intsD_t4, ↓Mn.sl_intsD_l, ↓Mn.list_intsD, ↓Mn.len_intsD, ↓Mn.itr_natsD, ↓Mn.enum_natsD, ↓Mn.sl_natsD_1, ↓Mn.sl_natsD_t1, ↓Mn.sl_natsD_t2, ↓Mn.sl_natsD_t4, ↓Mn.sl_natsD_l, ↓Mn.list_natsD, ↓Mn.len_natsD, ↓Mn.nebl_c, ↓Mn.nes_InvalidModel, ↓Mn.eqs_InvalidModel, ↓Mn.nes_InvalidLosses, ↓Mn.eqs_InvalidLosses, ↓Mn.nes_InvalidRule, ↓Mn.eqs_InvalidRule, ↓Mn.nes_InvalidMixed, ↓Mn.eqs_InvalidMixed, ↓Mn.nes_InvalidBelief, ↓Mn.eqs_InvalidBelief, ↓Mn.nes_InvalidObservation, ↓Mn.eqs_InvalidObservation, ↓Mn.nes_InvalidGrouping, ↓Mn.eqs_InvalidGrouping, ↓Mn.nes_NotSufficient, ↓Mn.eqs_NotSufficient, ↓Mn.nes_InvalidNumbers, ↓Mn.eqs_InvalidNumbers, ↓Mn.nes_InvalidEstimate, ↓Mn.eqs_InvalidEstimate, ↓Mn.nes_InvalidState, ↓Mn.eqs_InvalidState, ↓Mn.nes_ZeroChance, ↓Mn.eqs_ZeroChance, ↓Mn.nes_NoEstimate, ↓Mn.eqs_NoEstimate, ↓Mn.nes_UnlikeStates, ↓Mn.eqs_UnlikeStates, ↓Mn.nes_TooLarge, ↓Mn.eqs_TooLarge, ↓Mn.nes_InvalidTable, ↓Mn.eqs_InvalidTable, ↓Mn.nes_Impossible, ↓Mn.eqs_Impossible, ↓Mn.nes_NothingToUndo, ↓Mn.eqs_NothingToUndo, ↓Mn.nes_ParseError, ↓Mn.eqs_ParseError, Mn.truD_bl, Mn.truD_int, Mn.truD_non, Mn.truD_tup, Mn.truD_lst, Mn.truD_scr, Mn.tru1_bl, Mn.tru1_int, Mn.shaped_int, Mn.eqv_int, Mn.sq_tup, Mn.sq_lst, Mn.sq_scr, Mn.lst_lst, Mn.at_0, Mn.at_1, Mn.take_self, Mn.take_app, Mn.isNon_non, Mn.isNon_bl, Mn.isNon_int, Mn.isNon_str, Mn.isNon_tup, Mn.isNon_lst, Mn.isNon_fr, Mn.isNon_row, Mn.isNon_mdl, Mn.cell_at, Mn.cell_lst, Mn.intO_n, Mn.intO_i, Mn.isSome_s, Mn.isNon_intsD, Mn.isNon_natsD, List.getElem?_cons_zero, List.getElem?_cons_succ, ↓reduceIte, List.map_cons, List.map_nil, List.replicate, List.append, List.cons_append, List.nil_append, List.length_cons, List.length_nil, Nat.reduceSub, Nat.reduceAdd, Nat.sub_self, Bool.false_eq_true, Bool.not_true, Bool.not_false, decide_true, decide_false, List.length_map, bne_self_eq_false, and_true, true_and, and_self, $args,*])
  | `(tactic| simp_arith only) => `(tactic| simp only [↓Mn.tcaseB_bl, ↓Mn.cps_ok, ↓Mn.cps_exc, ↓Mn.cps_stuck, ↓Mn.bind_is, ↓Mn.st_is, ↓Mn.only_is, ↓Mn.cps_cps, ↓Mn.bind_cps, ↓Mn.tcase_some, ↓Mn.cps_ite, ↓Mn.rdV_some, ↓Mn.ev_var, ↓Mn.ev_frz, ↓Mn.ev_cst, ↓Mn.ev_tup, ↓Mn.ev_lst, ↓Mn.ev_bin, ↓Mn.ev_neg, ↓Mn.ev_not, ↓Mn.ev_cmp, ↓Mn.ev_chain, ↓Mn.ev_ite, ↓Mn.ev_and, ↓Mn.ev_or, ↓Mn.ev_a1, ↓Mn.ev_r1, ↓Mn.ev_a2, ↓Mn.ev_r2, ↓Mn.ev_ix, ↓Mn.ev_sl, ↓Mn.ev_rev, ↓Mn.ev_call, ↓Mn.ev_bi, ↓Mn.ev_isi, ↓Mn.ev_bm, ↓Mn.ev_lc, ↓Mn.ev_nil, ↓Mn.ev_cons, ↓Mn.ev_o0, ↓Mn.ev_o1, ↓Mn.ev_iexp, ↓Mn.ev_irng1, ↓Mn.ev_irng2, ↓Mn.ev_ienum, ↓Mn.ev_izip, ↓Mn.tcase_bl, ↓Mn.tcase_int, ↓Mn.tcase_non, ↓Mn.tcase_tup, ↓Mn.tcase_lst, ↓Mn.tcase_scr, ↓Mn.bin_add_c, ↓Mn.bin_sub_c, ↓Mn.neg_int_c, ↓Mn.cmp_lt_c, ↓Mn.cmp_le_c, ↓Mn.cmp_gt_c, ↓Mn.cmp_ge_c, ↓Mn.cmp_eqi_c, ↓Mn.cmp_nei_c, ↓Mn.itr_tup_c, ↓Mn.itr_lst_c, ↓Mn.itr_scr_c, ↓Mn.len_seq_c, ↓Mn.len_lst_c, ↓Mn.len_scr_c, ↓Mn.bi_abs_c, ↓Mn.ofO_some_c, ↓Mn.newT_0_c, ↓Mn.newL_0_c, ↓Mn.newT_1_c, ↓Mn.newL_1_c, ↓Mn.newT_2_c, ↓Mn.newL_2_c, ↓Mn.newT_3_c, ↓Mn.newL_3_c, ↓Mn.newT_4_c, ↓Mn.newL_4_c, ↓Mn.newT_5_c, ↓Mn.newL_5_c, ↓Mn.newT_6_c, ↓Mn.newL_6_c, ↓Mn.newT_7_c, ↓Mn.newL_7_c, ↓Mn.newT_8_c, ↓Mn.newL_8_c, ↓Mn.newT_9_c, ↓Mn.newL_9_c, ↓Mn.isi_non_int_c, ↓Mn.isi_non_bool_c, ↓Mn.isi_non_str_c, ↓Mn.isi_non_tuple_c, ↓Mn.isi_non_list_c, ↓Mn.isi_bl_int_c, ↓Mn.isi_bl_bool_c, ↓Mn.isi_bl_str_c, ↓Mn.isi_bl_tuple_c, ↓Mn.isi_bl_list_c, ↓Mn.isi_int_int_c, ↓Mn.isi_int_bool_c, ↓Mn.isi_int_str_c, ↓Mn.isi_int_tuple_c, ↓Mn.isi_int_list_c, ↓Mn.isi_str_int_c, ↓Mn.isi_str_bool_c, ↓Mn.isi_str_str_c, ↓Mn.isi_str_tuple_c, ↓Mn.isi_str_list_c, ↓Mn.isi_tup_int_c, ↓Mn.isi_tup_bool_c, ↓Mn.isi_tup_str_c, ↓Mn.isi_tup_tuple_c, ↓Mn.isi_tup_list_c, ↓Mn.isi_lst_int_c, ↓Mn.isi_lst_bool_c, ↓Mn.isi_lst_str_c, ↓Mn.isi_lst_tuple_c, ↓Mn.isi_lst_list_c, ↓Mn.ix_t0_c, ↓Mn.ix_t1_c, ↓Mn.ix_l0_c, ↓Mn.ix_l1_c, ↓Mn.wp_nx, ↓Mn.wp_rt, ↓Mn.wp_exc, ↓Mn.wp_stuck, ↓Mn.wp_ite, ↓Mn.wpV_zero, ↓Mn.wpV_succ, ↓Mn.wpB_one, ↓Mn.wpB_2, ↓Mn.wpB_3, ↓Mn.wp_nil, ↓Mn.wp_cons, ↓Mn.wp_asg, ↓Mn.wp_put, ↓Mn.wp_asgT, ↓Mn.wp_tupS, ↓Mn.wp_ts0, ↓Mn.wp_tsV, ↓Mn.wp_tsS, ↓Mn.wp_par, ↓Mn.wp_expr, ↓Mn.wp_ret, ↓Mn.wp_if, ↓Mn.wp_for, ↓Mn.wp_while, ↓Mn.wp_rais, ↓Mn.wp_try, ↓Mn.hnd_cons, ↓Mn.enum_c, ↓Mn.enumL_c, ↓Mn.tuple_c, ↓Mn.tupleT_c, ↓Mn.fr_ix0, ↓Mn.fr_ix1, ↓Mn.eq_fr_c, ↓Mn.ne_fr_c, ↓Mn.ix_row, ↓Mn.len_row, ↓Mn.len_mdl, ↓Mn.len_los, ↓Mn.ix_mdl0, ↓Mn.isi_row_tuple, ↓Mn.cmp_is_c, ↓Mn.cmp_isnot_c, ↓Mn.cell_tup_c, ↓Mn.newL_nil_c, ↓Mn.slT_1, ↓Mn.slT_t1, ↓Mn.slT_t2, ↓Mn.slT_t4, ↓Mn.slT_l, ↓Mn.listT_c, ↓Mn.listL_c, ↓Mn.itr_rowD, ↓Mn.enum_rowD, ↓Mn.sl_rowD_1, ↓Mn.sl_rowD_t1, ↓Mn.sl_rowD_t2, ↓Mn.sl_rowD_t4, ↓Mn.sl_rowD_l, ↓Mn.list_rowD, ↓Mn.itr_mdl, ↓Mn.enum_mdl, ↓Mn.sl_mdl_1, ↓Mn.sl_mdl_t1, ↓Mn.sl_mdl_t2, ↓Mn.sl_mdl_t4, ↓Mn.sl_mdl_l, ↓Mn.list_mdl, ↓Mn.itr_losD, ↓Mn.enum_losD, ↓Mn.sl_losD_1, ↓Mn.sl_losD_t1, ↓Mn.sl_losD_t2, ↓Mn.sl_losD_t4, ↓Mn.sl_losD_l, ↓Mn.list_losD, ↓Mn.itr_intsD, ↓Mn.enum_intsD, ↓Mn.sl_intsD_1, ↓Mn.sl_intsD_t1, ↓Mn.sl_intsD_t2, ↓Mn.sl_intsD_t4, ↓Mn.sl_intsD_l, ↓Mn.list_intsD, ↓Mn.len_intsD, ↓Mn.itr_natsD, ↓Mn.enum_natsD, ↓Mn.sl_natsD_1, ↓Mn.sl_natsD_t1, ↓Mn.sl_natsD_t2, ↓Mn.sl_natsD_t4, ↓Mn.sl_natsD_l, ↓Mn.list_natsD, ↓Mn.len_natsD, ↓Mn.nebl_c, ↓Mn.nes_InvalidModel, ↓Mn.eqs_InvalidModel, ↓Mn.nes_InvalidLosses, ↓Mn.eqs_InvalidLosses, ↓Mn.nes_InvalidRule, ↓Mn.eqs_InvalidRule, ↓Mn.nes_InvalidMixed, ↓Mn.eqs_InvalidMixed, ↓Mn.nes_InvalidBelief, ↓Mn.eqs_InvalidBelief, ↓Mn.nes_InvalidObservation, ↓Mn.eqs_InvalidObservation, ↓Mn.nes_InvalidGrouping, ↓Mn.eqs_InvalidGrouping, ↓Mn.nes_NotSufficient, ↓Mn.eqs_NotSufficient, ↓Mn.nes_InvalidNumbers, ↓Mn.eqs_InvalidNumbers, ↓Mn.nes_InvalidEstimate, ↓Mn.eqs_InvalidEstimate, ↓Mn.nes_InvalidState, ↓Mn.eqs_InvalidState, ↓Mn.nes_ZeroChance, ↓Mn.eqs_ZeroChance, ↓Mn.nes_NoEstimate, ↓Mn.eqs_NoEstimate, ↓Mn.nes_UnlikeStates, ↓Mn.eqs_UnlikeStates, ↓Mn.nes_TooLarge, ↓Mn.eqs_TooLarge, ↓Mn.nes_InvalidTable, ↓Mn.eqs_InvalidTable, ↓Mn.nes_Impossible, ↓Mn.eqs_Impossible, ↓Mn.nes_NothingToUndo, ↓Mn.eqs_NothingToUndo, ↓Mn.nes_ParseError, ↓Mn.eqs_ParseError, Mn.truD_bl, Mn.truD_int, Mn.truD_non, Mn.truD_tup, Mn.truD_lst, Mn.truD_scr, Mn.tru1_bl, Mn.tru1_int, Mn.shaped_int, Mn.eqv_int, Mn.sq_tup, Mn.sq_lst, Mn.sq_scr, Mn.lst_lst, Mn.at_0, Mn.at_1, Mn.take_self, Mn.take_app, Mn.isNon_non, Mn.isNon_bl, Mn.isNon_int, Mn.isNon_str, Mn.isNon_tup, Mn.isNon_lst, Mn.isNon_fr, Mn.isNon_row, Mn.isNon_mdl, Mn.cell_at, Mn.cell_lst, Mn.intO_n, Mn.intO_i, Mn.isSome_s, Mn.isNon_intsD, Mn.isNon_natsD, List.getElem?_cons_zero, List.getElem?_cons_succ, ↓reduceIte, List.map_cons, List.map_nil, List.replicate, List.append, List.cons_append, List.nil_append, List.length_cons, List.length_nil, Nat.reduceSub, Nat.reduceAdd, Nat.sub_self, Bool.false_eq_true, Bool.not_true, Bool.not_false, decide_true, decide_false, List.length_map, bne_self_eq_false, and_true, true_and, and_self])
namespace Mn
open PySem
mutual
/-- plain data: numbers of so many bits -/
def Pb (n : Nat) : D → Prop
  | .int i => Bt n i
  | .tup ds => ds.length ≤ 10000 ∧ Pbs n ds
  | .lst ds => ds.length ≤ 10000 ∧ Pbs n ds
  | .ref _ => False
  | .scr _ => False
  | _ => True
def Pbs (n : Nat) : List D → Prop
  | [] => True
  | d :: r => Pb n d ∧ Pbs n r
end
theorem pbs_mem {n : Nat} : ∀ {ds : List D}, Pbs n ds ↔ ∀ d ∈ ds, Pb n d
  | [] => by simp [Pbs]
  | e :: r => by simp only [Pbs, pbs_mem (ds := r), List.forall_mem_cons]
theorem tv_all {α : Type} {xs : List α} {Q : α → Prop} : (xs.all fun a => tv (Q a)) = tv (∀ a ∈ xs, Q a) := (tv_eq (by rw [List.all_eq_true]; exact ⟨fun h a ha => tv_true.mp (h a ha), fun h a ha => tv_of (h a ha)⟩)).symm
theorem tv_any {α : Type} {xs : List α} {Q : α → Prop} : (xs.any fun a => tv (Q a)) = tv (∃ a ∈ xs, Q a) := (tv_eq (by rw [List.any_eq_true]; exact ⟨fun ⟨a, ha, h⟩ => ⟨a, ha, tv_true.mp h⟩, fun ⟨a, ha, h⟩ => ⟨a, ha, tv_of h⟩⟩)).symm
section
variable {α : Type} {b : Nat} {own : List Nat} {elt : ME} {tg : Pat} {ρ : Env} {src : Src} {S : Store} {k : D → Store → Prop} {x : Nat → Store → Prop} {z : Prop} {m : Bool}
theorem all_lc {f : α → D} {xs : List α} (Q : α → Prop) (hs : src.stays S = true) (hl : xs.length ≤ 10000)
    (h : ∀ a ∈ xs, wpB tg (f a) (wipeD ρ own) fun ρ1 => (evE b elt ρ1 S).cps (fun v S' => v = .bl (tv (Q a)) ∧ S' = S) noX False) (hk : k (.bl (tv (∀ a ∈ xs, Q a))) S) :
    (lcS b own elt tg .none ρ src (xs.map f) S).cps (fun ds S2 => (newL false ds S2).cps (fun d S1 => (biD m .all [d] S1).cps k x z) x z) x z := by
  refine lc_map (fun a => D.bl (tv (Q a))) hs (line_le hl) h ?_
  rw [newL_c (by simp; exact line_le hl), all_c, tv_all]
  exact hk
theorem any_lc {f : α → D} {xs : List α} (Q : α → Prop) (hs : src.stays S = true) (hl : xs.length ≤ 10000)
    (h : ∀ a ∈ xs, wpB tg (f a) (wipeD ρ own) fun ρ1 => (evE b elt ρ1 S).cps (fun v S' => v = .bl (tv (Q a)) ∧ S' = S) noX False) (hk : k (.bl (tv (∃ a ∈ xs, Q a))) S) :
    (lcS b own elt tg .none ρ src (xs.map f) S).cps (fun ds S2 => (newL false ds S2).cps (fun d S1 => (biD m .any [d] S1).cps k x z) x z) x z := by
  refine lc_map (fun a => D.bl (tv (Q a))) hs (line_le hl) h ?_
  rw [newL_c (by simp; exact line_le hl), any_c, tv_any]
  exact hk
theorem allD_lc {xs : List D} (Q : D → Prop) (hs : src.stays S = true) (hl : xs.length ≤ 10000)
    (h : ∀ a ∈ xs, wpB tg a (wipeD ρ own) fun ρ1 => (evE b elt ρ1 S).cps (fun v S' => v = .bl (tv (Q a)) ∧ S' = S) noX False) (hk : k (.bl (tv (∀ a ∈ xs, Q a))) S) :
    (lcS b own elt tg .none ρ src xs S).cps (fun ds S2 => (newL false ds S2).cps (fun d S1 => (biD m .all [d] S1).cps k x z) x z) x z := by
  have := all_lc (f := id) (xs := xs) Q hs hl h hk (m := m) (x := x) (z := z)
  rwa [List.map_id] at this
theorem anyD_lc {xs : List D} (Q : D → Prop) (hs : src.stays S = true) (hl : xs.length ≤ 10000)
    (h : ∀ a ∈ xs, wpB tg a (wipeD ρ own) fun ρ1 => (evE b elt ρ1 S).cps (fun v S' => v = .bl (tv (Q a)) ∧ S' = S) noX False) (hk : k (.bl (tv (∃ a ∈ xs, Q a))) S) :
    (lcS b own elt tg .none ρ src xs S).cps (fun ds S2 => (newL false ds S2).cps (fun d S1 => (biD m .any [d] S1).cps k x z) x z) x z := by
  have := any_lc (f := id) (xs := xs) Q hs hl h hk (m := m) (x := x) (z := z)
  rwa [List.map_id] at this
end
theorem map_of {α : Type} {f : α → D} {P : α → Prop} : ∀ {ds : List D}, (∀ d ∈ ds, ∃ a, d = f a ∧ P a) → ∃ l : List α, ds = l.map f ∧ ∀ a ∈ l, P a
  | [], _ => ⟨[], rfl, fun _ h => by simp at h⟩
  | d :: r, h => by
    obtain ⟨a, e, p⟩ := h d List.mem_cons_self
    obtain ⟨l, e2, p2⟩ := map_of fun d hd => h d (List.mem_cons_of_mem _ hd)
    exact ⟨a :: l, by rw [e, e2]; rfl, fun b hb => by
      rcases List.mem_cons.mp hb with rfl | hb
      · exact p
      · exact p2 b hb⟩
theorem fr_pb {n : Nat} {q : Rat} (h : Pb n (fr q)) : Sz n q := by
  simp only [fr, Pb, Pbs] at h
  exact ⟨h.2.1, h.2.2.1⟩
theorem pb_fr {n : Nat} {q : Rat} (h : Sz n q) : Pb n (fr q) := by
  simp only [fr, Pb, Pbs]
  exact ⟨by simp, h.1, h.2, trivial⟩
theorem row_pb {n : Nat} {l : List Rat} (h : Pb n (rowD l)) : l.length ≤ 10000 ∧ Szs n l := by
  simp only [rowD, Pb, List.length_map] at h
  exact ⟨h.1, fun q hq => fr_pb (pbs_mem.mp h.2 _ (List.mem_map.mpr ⟨q, hq, rfl⟩))⟩
theorem mdl_pb {n : Nat} {m : List (List Rat)} (h : Pb n (mdl m)) : m.length ≤ 10000 ∧ ∀ r ∈ m, Szs n r := by
  simp only [mdl, Pb, List.length_map] at h
  exact ⟨h.1, fun q hq => (row_pb (pbs_mem.mp h.2 _ (List.mem_map.mpr ⟨q, hq, rfl⟩))).2⟩
/-- in lowest terms -/
theorem fr_of {a b : Int} (hb : 1 ≤ b) (h : Int.gcd a b = 1) : D.tup [.int a, .int b] = fr (Rat.divInt a b) := by
  rw [fr_divInt (by omega), h]; simp
theorem fr_low {q : Rat} : 1 ≤ ((q.den : Nat) : Int) ∧ Int.gcd q.num (q.den : Nat) = 1 := ⟨den_pos q, by have := q.reduced; unfold Int.gcd; simpa using this⟩
def isIn : D → Bool
  | .int _ => true
  | _ => false
theorem isIn_is {d : D} (h : isIn d = true) : ∃ a, d = .int a := by
  cases d with
  | int a => exact ⟨a, rfl⟩
  | _ => simp [isIn] at h
end Mn
namespace Lb
open PySem Mn
theorem is_fraction_c {b n : Nat} {S : Store} {d : D} (hd : Pb n d) (hn : n ≤ 8000) : d_is_fraction b [d] S = .ok (.bl (tv (∃ q, d = fr q))) S := by
  refine run_eq rfl rfl ?_
  unfold b_is_fraction
  have no : ∀ {p : Prop}, (∀ q, d ≠ fr q) → (D.bl false = D.bl (tv (∃ q, d = fr q))) := fun h => by rw [tv_no]; exact fun ⟨q, e⟩ => h q e
  cases d with
  | ref _ => simp [Pb] at hd
  | scr _ => simp [Pb] at hd
  | tup ds =>
    simp only [Pb] at hd
    simp_arith only
    by_cases hl : ds.length = 2
    · match ds, hl, hd with
      | [x, y], _, hd =>
        have hp := pbs_mem.mp hd.2
        simp_arith only
        refine allD_lc (fun d => isIn d = true) rfl (by simp) ?_ ?_
        · intro d hm
          have := hp d hm
          cases d with
          | ref _ => simp [Pb] at this
          | scr _ => simp [Pb] at this
          | _ => simp_arith only [wipe_1, List.set_cons_succ, List.set_cons_zero, isIn, tv_of, tv_no (show ¬ False from id)]
        · by_cases hx : ∀ a ∈ [x, y], isIn a = true
          · have hx1 := hx x (by simp)
            have hx2 := hx y (by simp)
            obtain ⟨a, rfl⟩ := isIn_is hx1
            obtain ⟨c, rfl⟩ := isIn_is hx2
            have ha : Bt n a := hp (.int a) (by simp)
            have hc : Bt n c := hp (.int c) (by simp)
            simp_arith only [tv_of hx]
            by_cases h1 : c < 1
            · simp_arith only [h1]
              refine no (p := True) fun q e => ?_
              have := (fr_low (q := q)).1
              simp only [fr, D.tup.injEq, List.cons.injEq, D.int.injEq] at e
              omega
            · obtain ⟨m, rfl⟩ : ∃ m : Nat, c = (m : Int) := ⟨c.natAbs, by omega⟩
              simp_arith only [h1, common_divisor_c (a := a.natAbs) (c := m) (k := n) (by simpa [Bt] using hc) (by omega)]
              rw [tv_eq (b := decide (((a.natAbs.gcd m : Nat) : Int) = 1))]
              rw [decide_eq_true_eq]
              constructor
              · intro h
                exact ⟨_, fr_of (by omega) (show Int.gcd a m = 1 by unfold Int.gcd; simp at h ⊢; omega)⟩
              · rintro ⟨q, e⟩
                simp only [fr, D.tup.injEq, List.cons.injEq, D.int.injEq] at e
                have := (fr_low (q := q)).2
                rw [← e.1, ← e.2.1] at this
                unfold Int.gcd at this
                simp at this ⊢
                omega
          · simp_arith only [tv_no hx]
            refine no (p := True) fun q e => hx ?_
            simp only [fr, D.tup.injEq, List.cons.injEq] at e
            intro a ha
            rcases List.mem_cons.mp ha with rfl | ha
            · rw [e.1]; rfl
            · rw [List.mem_singleton.mp ha, e.2.1]; rfl
    · have : ¬ ((ds.length : Nat) : Int) = 2 := by omega
      simp_arith only [this]
      refine no (p := True) fun q e => hl ?_
      simp only [fr, D.tup.injEq] at e
      rw [e]; rfl
  | _ => simp_arith only; exact no (p := True) fun q e => by cases e
end Lb
namespace Mn
/-- chances of so many things -/
def IsCh (lo hi : Nat) (d : D) : Prop := ∃ l, d = rowD l ∧ lo ≤ l.length ∧ l.length ≤ hi ∧ Ch l
end Mn
namespace Lb
open PySem Mn
theorem are_chances_c {b n lo hi : Nat} {S : Store} {d : D} (hd : Pb n d) (hn : n ≤ 700) (hh : hi ≤ 10) : d_are_chances b [d, .int (lo : Nat), .int (hi : Nat)] S = .ok (.bl (tv (IsCh lo hi d))) S := by
  refine run_eq rfl rfl ?_
  unfold b_are_chances
  have no : ∀ {p : Prop}, (∀ l, d = rowD l → lo ≤ l.length → l.length ≤ hi → Ch l → False) → (D.bl false = D.bl (tv (IsCh lo hi d))) := fun h => by rw [tv_no]; exact fun ⟨q, e, e1, e2, e3⟩ => h q e e1 e2 e3
  cases d with
  | ref _ => simp [Pb] at hd
  | scr _ => simp [Pb] at hd
  | tup ds =>
    simp only [Pb] at hd
    have hp := pbs_mem.mp hd.2
    simp_arith only
    by_cases h1 : lo ≤ ds.length
    · have h1' : (lo : Int) ≤ (ds.length : Nat) := by omega
      by_cases h2 : ds.length ≤ hi
      · have h2' : ((ds.length : Nat) : Int) ≤ (hi : Int) := by omega
        simp_arith only [h1', h2']
        refine allD_lc (fun d => ∃ q, d = fr q ∧ 0 ≤ q) rfl hd.1 ?_ ?_
        · intro d hm
          simp_arith only [wipe_1, List.set_cons_succ, List.set_cons_zero, is_fraction_c (hp d hm) (show n ≤ 8000 by omega)]
          by_cases hf : ∃ q, d = fr q
          · obtain ⟨q, rfl⟩ := hf
            simp_arith only [tv_of (show ∃ q', fr q = fr q' from ⟨q, rfl⟩)]
            rw [tv_eq (b := decide (0 ≤ q.num))]
            rw [decide_eq_true_eq, Rat.num_nonneg]
            exact ⟨fun h => ⟨q, rfl, h⟩, fun ⟨q', e, h⟩ => by rw [fr_inj e]; exact h⟩
          · simp_arith only [tv_no hf, tv_no (show ¬ ∃ q, d = fr q ∧ 0 ≤ q from fun ⟨q, e, _⟩ => hf ⟨q, e⟩)]
        · by_cases hall : ∀ d ∈ ds, ∃ q, d = fr q ∧ 0 ≤ q
          · obtain ⟨l, rfl, hl⟩ := map_of hall
            rw [List.length_map] at h1 h2
            have hsz : Szs n l := fun q hq => fr_pb (hp _ (List.mem_map.mpr ⟨q, hq, rfl⟩))
            have hb : l.length * (n + 1) ≤ 10 * (700 + 1) := Nat.mul_le_mul (by omega) (by omega)
            simp_arith only [tv_of hall, total_of_c (.inl rfl) hsz (by omega)]
            rw [show D.tup [.int 1, .int 1] = fr 1 from rfl]
            simp_arith only
            congr 1
            refine tv_iff ⟨fun h => ⟨l, rfl, h1, h2, hl, h⟩, fun ⟨l', e, _, _, h⟩ => ?_⟩
            rw [rowD_eq.mp (show rowD l = rowD l' from e)]
            exact h.2
          · simp_arith only [tv_no hall]
            refine no (p := True) fun l e _ _ h => hall fun d hm => ?_
            rw [D.tup.inj e] at hm
            obtain ⟨q, hq, rfl⟩ := List.mem_map.mp hm
            exact ⟨q, rfl, h.1 q hq⟩
      · have h2' : ¬ ((ds.length : Nat) : Int) ≤ (hi : Int) := by omega
        simp_arith only [h1', h2']
        refine no (p := True) fun l e _ h _ => h2 ?_
        rw [D.tup.inj e]; simpa using h
    · have h1' : ¬ (lo : Int) ≤ (ds.length : Nat) := by omega
      simp_arith only [h1']
      refine no (p := True) fun l e h _ _ => h1 ?_
      rw [D.tup.inj e]; simpa using h
  | _ => simp_arith only; exact no (p := True) fun q e => by cases e
end Lb

/-! Plain: what is a model, what are losses, rules. -/
local macro_rules
  | `(tactic| simp_arith only [$args,*]) => `(tactic| simp only [↓Mn.tcaseB_bl, ↓Mn.cps_ok, ↓Mn.cps_exc, ↓Mn.cps_stuck, ↓Mn.bind_is, ↓Mn.st_is, ↓Mn.only_is, ↓Mn.cps_cps, ↓Mn.bind_cps, ↓Mn.tcase_some, ↓Mn.cps_ite, ↓Mn.rdV_some, ↓Mn.ev_var, ↓Mn.ev_frz, ↓Mn.ev_cst, ↓Mn.ev_tup, ↓Mn.ev_lst, ↓Mn.ev_bin, ↓Mn.ev_neg, ↓Mn.ev_not, ↓Mn.ev_cmp, ↓Mn.ev_chain, ↓Mn.ev_ite, ↓Mn.ev_and, ↓Mn.ev_or, ↓Mn.ev_a1, ↓Mn.ev_r1, ↓Mn.ev_a2, ↓Mn.ev_r2, ↓Mn.ev_ix, ↓Mn.ev_sl, ↓Mn.ev_rev, ↓Mn.ev_call, ↓Mn.ev_bi, ↓Mn.ev_isi, ↓Mn.ev_bm, ↓Mn.ev_lc, ↓Mn.ev_nil, ↓Mn.ev_cons, ↓Mn.ev_o0, ↓Mn.ev_o1, ↓Mn.ev_iexp, ↓Mn.ev_irng1, ↓Mn.ev_irng2, ↓Mn.ev_ienum, ↓Mn.ev_izip, ↓Mn.tcase_bl, ↓Mn.tcase_int, ↓Mn.tcase_non, ↓Mn.tcase_tup, ↓Mn.tcase_lst, ↓Mn.tcase_scr, ↓Mn.bin_add_c, ↓Mn.bin_sub_c, ↓Mn.neg_int_c, ↓Mn.cmp_lt_c, ↓Mn.cmp_le_c, ↓Mn.cmp_gt_c, ↓Mn.cmp_ge_c, ↓Mn.cmp_eqi_c, ↓Mn.cmp_nei_c, ↓Mn.itr_tup_c, ↓Mn.itr_lst_c, ↓Mn.itr_scr_c, ↓Mn.len_seq_c, ↓Mn.len_lst_c, ↓Mn.len_scr_c, ↓Mn.bi_abs_c, ↓Mn.ofO_some_c, ↓Mn.newT_0_c, ↓Mn.newL_0_c, ↓Mn.newT_1_c, ↓Mn.newL_1_c, ↓Mn.newT_2_c, ↓Mn.newL_2_c, ↓Mn.newT_3_c, ↓Mn.newL_3_c, ↓Mn.newT_4_c, ↓Mn.newL_4_c, ↓Mn.newT_5_c, ↓Mn.newL_5_c, ↓Mn.newT_6_c, ↓Mn.newL_6_c, ↓Mn.newT_7_c, ↓Mn.newL_7_c, ↓Mn.newT_8_c, ↓Mn.newL_8_c, ↓Mn.newT_9_c, ↓Mn.newL_9_c, ↓Mn.isi_non_int_c, ↓Mn.isi_non_bool_c, ↓Mn.isi_non_str_c, ↓Mn.isi_non_tuple_c, ↓Mn.isi_non_list_c, ↓Mn.isi_bl_int_c, ↓Mn.isi_bl_bool_c, ↓Mn.isi_bl_str_c, ↓Mn.isi_bl_tuple_c, ↓Mn.isi_bl_list_c, ↓Mn.isi_int_int_c, ↓Mn.isi_int_bool_c, ↓Mn.isi_int_str_c, ↓Mn.isi_int_tuple_c, ↓Mn.isi_int_list_c, ↓Mn.isi_str_int_c, ↓Mn.isi_str_bool_c, ↓Mn.isi_str_str_c, ↓Mn.isi_str_tuple_c, ↓Mn.isi_str_list_c, ↓Mn.isi_tup_int_c, ↓Mn.isi_tup_bool_c, ↓Mn.isi_tup_str_c, ↓Mn.isi_tup_tuple_c, ↓Mn.isi_tup_list_c, ↓Mn.isi_lst_int_c, ↓Mn.isi_lst_bool_c, ↓Mn.isi_lst_str_c, ↓Mn.isi_lst_tuple_c, ↓Mn.isi_lst_list_c, ↓Mn.ix_t0_c, ↓Mn.ix_t1_c, ↓Mn.ix_l0_c, ↓Mn.ix_l1_c, ↓Mn.wp_nx, ↓Mn.wp_rt, ↓Mn.wp_exc, ↓Mn.wp_stuck, ↓Mn.wp_ite, ↓Mn.wpV_zero, ↓Mn.wpV_succ, ↓Mn.wpB_one, ↓Mn.wpB_2, ↓Mn.wpB_3, ↓Mn.wp_nil, ↓Mn.wp_cons, ↓Mn.wp_asg, ↓Mn.wp_put, ↓Mn.wp_asgT, ↓Mn.wp_tupS, ↓Mn.wp_ts0, ↓Mn.wp_tsV, ↓Mn.wp_tsS, ↓Mn.wp_par, ↓Mn.wp_expr, ↓Mn.wp_ret, ↓Mn.wp_if, ↓Mn.wp_for, ↓Mn.wp_while, ↓Mn.wp_rais, ↓Mn.wp_try, ↓Mn.hnd_cons, ↓Mn.enum_c, ↓Mn.enumL_c, ↓Mn.tuple_c, ↓Mn.tupleT_c, ↓Mn.fr_ix0, ↓Mn.fr_ix1, ↓Mn.eq_fr_c, ↓Mn.ne_fr_c, ↓Mn.ix_row, ↓Mn.len_row, ↓Mn.len_mdl, ↓Mn.len_los, ↓Mn.ix_mdl0, ↓Mn.isi_row_tuple, ↓Mn.cmp_is_c, ↓Mn.cmp_isnot_c, ↓Mn.cell_tup_c, ↓Mn.newL_nil_c, ↓Mn.slT_1, ↓Mn.slT_t1, ↓Mn.slT_t2, ↓Mn.slT_t4, ↓Mn.slT_l, ↓Mn.listT_c, ↓Mn.listL_c, ↓Mn.itr_rowD, ↓Mn.enum_rowD, ↓Mn.sl_rowD_1, ↓Mn.sl_rowD_t1, ↓Mn.sl_rowD_t2, ↓Mn.sl_rowD_t4, ↓Mn.sl_rowD_l, ↓Mn.list_rowD, ↓Mn.itr_mdl, ↓Mn.enum_mdl, ↓Mn.sl_mdl_1, ↓Mn.sl_mdl_t1, ↓Mn.sl_mdl_t2, ↓Mn.sl_mdl_t4, ↓Mn.sl_mdl_l, ↓Mn.list_mdl, ↓Mn.itr_losD, ↓Mn.enum_losD, ↓Mn.sl_losD_1, ↓Mn.sl_losD_t1, ↓Mn.sl_losD_t2, ↓Mn.sl_losD_t4, ↓Mn.sl_losD_l, ↓Mn.list_losD, ↓Mn.itr_intsD, ↓Mn.enum_intsD, ↓Mn.sl_intsD_1, ↓Mn.sl_intsD_t1, ↓Mn.sl_intsD_t2, ↓Mn.sl_intsD_t4, ↓Mn.sl_intsD_l, ↓Mn.list_intsD, ↓Mn.len_intsD, ↓Mn.itr_natsD, ↓Mn.enum_natsD, ↓Mn.sl_natsD_1, ↓Mn.sl_natsD_t1, ↓Mn.sl_natsD_t2, ↓Mn.sl_natsD_t4, ↓Mn.sl_natsD_l, ↓Mn.list_natsD, ↓Mn.len_natsD, ↓Mn.nebl_c, ↓Mn.nes_InvalidModel, ↓Mn.eqs_InvalidModel, ↓Mn.nes_InvalidLosses, ↓Mn.eqs_InvalidLosses, ↓Mn.nes_InvalidRule, ↓Mn.eqs_InvalidRule, ↓Mn.nes_InvalidMixed, ↓Mn.eqs_InvalidMixed, ↓Mn.nes_InvalidBelief, ↓Mn.eqs_InvalidBelief, ↓Mn.nes_InvalidObservation, ↓Mn.eqs_InvalidObservation, ↓Mn.nes_InvalidGrouping, ↓Mn.eqs_InvalidGrouping, ↓Mn.nes_NotSufficient, ↓Mn.eqs_NotSufficient, ↓Mn.nes_InvalidNumbers, ↓Mn.eqs_InvalidNumbers, ↓Mn.nes_InvalidEstimate, ↓Mn.eqs_InvalidEstimate, ↓Mn.nes_InvalidState, ↓Mn.eqs_InvalidState, ↓Mn.nes_ZeroChance, ↓Mn.eqs_ZeroChance, ↓Mn.nes_NoEstimate, ↓Mn.eqs_NoEstimate, ↓Mn.nes_UnlikeStates, ↓Mn.eqs_UnlikeStates, ↓Mn.nes_TooLarge, ↓Mn.eqs_TooLarge, ↓Mn.nes_InvalidTable, ↓Mn.eqs_InvalidTable, ↓Mn.nes_Impossible, ↓Mn.eqs_Impossible, ↓Mn.nes_NothingToUndo, ↓Mn.eqs_NothingToUndo, ↓Mn.nes_ParseError, ↓Mn.eqs_ParseError, Mn.truD_bl, Mn.truD_int, Mn.truD_non, Mn.truD_tup, Mn.truD_lst, Mn.truD_scr, Mn.tru1_bl, Mn.tru1_int, Mn.shaped_int, Mn.eqv_int, Mn.sq_tup, Mn.sq_lst, Mn.sq_scr, Mn.lst_lst, Mn.at_0, Mn.at_1, Mn.take_self, Mn.take_app, Mn.isNon_non, Mn.isNon_bl, Mn.isNon_int, Mn.isNon_str, Mn.isNon_tup, Mn.isNon_lst, Mn.isNon_fr, Mn.isNon_row, Mn.isNon_mdl, Mn.cell_at, Mn.cell_lst, Mn.intO_n, Mn.intO_i, Mn.isSome_s, Mn.isNon_intsD, Mn.isNon_natsD, List.getElem?_cons_zero, List.getElem?_cons_succ, ↓reduceIte, List.map_cons, List.map_nil, List.replicate, List.append, List.cons_append, List.nil_append, List.length_cons, List.length_nil, Nat.reduceSub, Nat.reduceAdd, Nat.sub_self, Bool.false_eq_true, Bool.not_true, Bool.not_false, decide_true, decide_false, List.length_map, bne_self_eq_false, and_true, true_and, and_self, $args,*])
  | `(tactic| simp_arith only) => `(tactic| simp only [↓Mn.tcaseB_bl, ↓Mn.cps_ok, ↓Mn.cps_exc, ↓Mn.cps_stuck, ↓Mn.bind_is, ↓Mn.st_is, ↓Mn.only_is, ↓Mn.cps_cps, ↓Mn.bind_cps, ↓Mn.tcase_some, ↓Mn.cps_ite, ↓Mn.rdV_some, ↓Mn.ev_var, ↓Mn.ev_frz, ↓Mn.ev_cst, ↓Mn.ev_tup, ↓Mn.ev_lst, ↓Mn.ev_bin, ↓Mn.ev_neg, ↓Mn.ev_not, ↓Mn.ev_cmp, ↓Mn.ev_chain, ↓Mn.ev_ite, ↓Mn.ev_and, ↓Mn.ev_or, ↓Mn.ev_a1, ↓Mn.ev_r1, ↓Mn.ev_a2, ↓Mn.ev_r2, ↓Mn.ev_ix, ↓Mn.ev_sl, ↓Mn.ev_rev, ↓Mn.ev_call, ↓Mn.ev_bi, ↓Mn.ev_isi, ↓Mn.ev_bm, ↓Mn.ev_lc, ↓Mn.ev_nil, ↓Mn.ev_cons, ↓Mn.ev_o0, ↓Mn.ev_o1, ↓Mn.ev_iexp, ↓Mn.ev_irng1, ↓Mn.ev_irng2, ↓Mn.ev_ienum, ↓Mn.ev_izip, ↓Mn.tcase_bl, ↓Mn.tcase_int, ↓Mn.tcase_non, ↓Mn.tcase_tup, ↓Mn.tcase_lst, ↓Mn.tcase_scr, ↓Mn.bin_add_c, ↓Mn.bin_sub_c, ↓Mn.neg_int_c, ↓Mn.cmp_lt_c, ↓Mn.cmp_le_c, ↓Mn.cmp_gt_c, ↓Mn.cmp_ge_c, ↓Mn.cmp_eqi_c, ↓Mn.cmp_nei_c, ↓Mn.itr_tup_c, ↓Mn.itr_lst_c, ↓Mn.itr_scr_c, ↓Mn.len_seq_c, ↓Mn.len_lst_c, ↓Mn.len_scr_c, ↓Mn.bi_abs_c, ↓Mn.ofO_some_c, ↓Mn.newT_0_c, ↓Mn.newL_0_c, ↓Mn.newT_1_c, ↓Mn.newL_1_c, ↓Mn.newT_2_c, ↓Mn.newL_2_c, ↓Mn.newT_3_c, ↓Mn.newL_3_c, ↓Mn.newT_4_c, ↓Mn.newL_4_c, ↓Mn.newT_5_c, ↓Mn.newL_5_c, ↓Mn.newT_6_c, ↓Mn.newL_6_c, ↓Mn.newT_7_c, ↓Mn.newL_7_c, ↓Mn.newT_8_c, ↓Mn.newL_8_c, ↓Mn.newT_9_c, ↓Mn.newL_9_c, ↓Mn.isi_non_int_c, ↓Mn.isi_non_bool_c, ↓Mn.isi_non_str_c, ↓Mn.isi_non_tuple_c, ↓Mn.isi_non_list_c, ↓Mn.isi_bl_int_c, ↓Mn.isi_bl_bool_c, ↓Mn.isi_bl_str_c, ↓Mn.isi_bl_tuple_c, ↓Mn.isi_bl_list_c, ↓Mn.isi_int_int_c, ↓Mn.isi_int_bool_c, ↓Mn.isi_int_str_c, ↓Mn.isi_int_tuple_c, ↓Mn.isi_int_list_c, ↓Mn.isi_str_int_c, ↓Mn.isi_str_bool_c, ↓Mn.isi_str_str_c, ↓Mn.isi_str_tuple_c, ↓Mn.isi_str_list_c, ↓Mn.isi_tup_int_c, ↓Mn.isi_tup_bool_c, ↓Mn.isi_tup_str_c, ↓Mn.isi_tup_tuple_c, ↓Mn.isi_tup_list_c, ↓Mn.isi_lst_int_c, ↓Mn.isi_lst_bool_c, ↓Mn.isi_lst_str_c, ↓Mn.isi_lst_tuple_c, ↓Mn.isi_lst_list_c, ↓Mn.ix_t0_c, ↓Mn.ix_t1_c, ↓Mn.ix_l0_c, ↓Mn.ix_l1_c, ↓Mn.wp_nx, ↓Mn.wp_rt, ↓Mn.wp_exc, ↓Mn.wp_stuck, ↓Mn.wp_ite, ↓Mn.wpV_zero, ↓Mn.wpV_succ, ↓Mn.wpB_one, ↓Mn.wpB_2, ↓Mn.wpB_3, ↓Mn.wp_nil, ↓Mn.wp_cons, ↓Mn.wp_asg, ↓Mn.wp_put, ↓Mn.wp_asgT, ↓Mn.wp_tupS, ↓Mn.wp_ts0, ↓Mn.wp_tsV, ↓Mn.wp_tsS, ↓Mn.wp_par, ↓Mn.wp_expr, ↓Mn.wp_ret, ↓Mn.wp_if, ↓Mn.wp_for, ↓Mn.wp_while, ↓Mn.wp_rais, ↓Mn.wp_try, ↓Mn.hnd_cons, ↓Mn.enum_c, ↓Mn.enumL_c, ↓Mn.tuple_c, ↓Mn.tupleT_c, ↓Mn.fr_ix0, ↓Mn.fr_ix1, ↓Mn.eq_fr_c, ↓Mn.ne_fr_c, ↓Mn.ix_row, ↓Mn.len_row, ↓Mn.len_mdl, ↓Mn.len_los, ↓Mn.ix_mdl0, ↓Mn.isi_row_tuple, ↓Mn.cmp_is_c, ↓Mn.cmp_isnot_c, ↓Mn.cell_tup_c, ↓Mn.newL_nil_c, ↓Mn.slT_1, ↓Mn.slT_t1, ↓Mn.slT_t2, ↓Mn.slT_t4, ↓Mn.slT_l, ↓Mn.listT_c, ↓Mn.listL_c, ↓Mn.itr_rowD, ↓Mn.enum_rowD, ↓Mn.sl_rowD_1, ↓Mn.sl_rowD_t1, ↓Mn.sl_rowD_t2, ↓Mn.sl_rowD_t4, ↓Mn.sl_rowD_l, ↓Mn.list_rowD, ↓Mn.itr_mdl, ↓Mn.enum_mdl, ↓Mn.sl_mdl_1, ↓Mn.sl_mdl_t1, ↓Mn.sl_mdl_t2, ↓Mn.sl_mdl_t4, ↓Mn.sl_mdl_l, ↓Mn.list_mdl, ↓Mn.itr_losD, ↓Mn.enum_losD, ↓Mn.sl_losD_1, ↓Mn.sl_losD_t1, ↓Mn.sl_losD_t2, ↓Mn.sl_losD_t4, ↓Mn.sl_losD_l, ↓Mn.list_losD, ↓Mn.itr_intsD, ↓Mn.enum_intsD, ↓Mn.sl_intsD_1, ↓Mn.sl_intsD_t1, ↓Mn.sl_intsD_t2, ↓Mn.sl_intsD_t4, ↓Mn.sl_intsD_l, ↓Mn.list_intsD, ↓Mn.len_intsD, ↓Mn.itr_natsD, ↓Mn.enum_natsD, ↓Mn.sl_natsD_1, ↓Mn.sl_natsD_t1, ↓Mn.sl_natsD_t2, ↓Mn.sl_natsD_t4, ↓Mn.sl_natsD_l, ↓Mn.list_natsD, ↓Mn.len_natsD, ↓Mn.nebl_c, ↓Mn.nes_InvalidModel, ↓Mn.eqs_InvalidModel, ↓Mn.nes_InvalidLosses, ↓Mn.eqs_InvalidLosses, ↓Mn.nes_InvalidRule, ↓Mn.eqs_InvalidRule, ↓Mn.nes_InvalidMixed, ↓Mn.eqs_InvalidMixed, ↓Mn.nes_InvalidBelief, ↓Mn.eqs_InvalidBelief, ↓Mn.nes_InvalidObservation, ↓Mn.eqs_InvalidObservation, ↓Mn.nes_InvalidGrouping, ↓Mn.eqs_InvalidGrouping, ↓Mn.nes_NotSufficient, ↓Mn.eqs_NotSufficient, ↓Mn.nes_InvalidNumbers, ↓Mn.eqs_InvalidNumbers, ↓Mn.nes_InvalidEstimate, ↓Mn.eqs_InvalidEstimate, ↓Mn.nes_InvalidState, ↓Mn.eqs_InvalidState, ↓Mn.nes_ZeroChance, ↓Mn.eqs_ZeroChance, ↓Mn.nes_NoEstimate, ↓Mn.eqs_NoEstimate, ↓Mn.nes_UnlikeStates, ↓Mn.eqs_UnlikeStates, ↓Mn.nes_TooLarge, ↓Mn.eqs_TooLarge, ↓Mn.nes_InvalidTable, ↓Mn.eqs_InvalidTable, ↓Mn.nes_Impossible, ↓Mn.eqs_Impossible, ↓Mn.nes_NothingToUndo, ↓Mn.eqs_NothingToUndo, ↓Mn.nes_ParseError, ↓Mn.eqs_ParseError, Mn.truD_bl, Mn.truD_int, Mn.truD_non, Mn.truD_tup, Mn.truD_lst, Mn.truD_scr, Mn.tru1_bl, Mn.tru1_int, Mn.shaped_int, Mn.eqv_int, Mn.sq_tup, Mn.sq_lst, Mn.sq_scr, Mn.lst_lst, Mn.at_0, Mn.at_1, Mn.take_self, Mn.take_app, Mn.isNon_non, Mn.isNon_bl, Mn.isNon_int, Mn.isNon_str, Mn.isNon_tup, Mn.isNon_lst, Mn.isNon_fr, Mn.isNon_row, Mn.isNon_mdl, Mn.cell_at, Mn.cell_lst, Mn.intO_n, Mn.intO_i, Mn.isSome_s, Mn.isNon_intsD, Mn.isNon_natsD, List.getElem?_cons_zero, List.getElem?_cons_succ, ↓reduceIte, List.map_cons, List.map_nil, List.replicate, List.append, List.cons_append, List.nil_append, List.length_cons, List.length_nil, Nat.reduceSub, Nat.reduceAdd, Nat.sub_self, Bool.false_eq_true, Bool.not_true, Bool.not_false, decide_true, decide_false, List.length_map, bne_self_eq_false, and_true, true_and, and_self])
namespace Mn
open PySem
def IsM (d : D) : Prop := ∃ m, d = mdl m ∧ VM m
theorem tup_no {P : List D → Prop} {d : D} (h : ∀ ds, d ≠ .tup ds) {α : Type} {f : α → List D} {Q : α → Prop} : ¬ ∃ a, d = .tup (f a) ∧ Q a := fun ⟨a, e, _⟩ => h _ e
theorem VM.ne {m : List (List Rat)} (h : VM m) : m ≠ [] := fun e => by have := h.n2; rw [e] at this; simp at this
end Mn
namespace Lb
open PySem Mn
theorem is_model_c {b n : Nat} {S : Store} {d : D} (hd : Pb n d) (hn : n ≤ 700) : d_is_model b [d] S = .ok (.bl (tv (IsM d))) S := by
  refine run_eq rfl rfl ?_
  unfold b_is_model
  have no : ∀ {p : Prop}, (∀ m, d = mdl m → VM m → False) → (D.bl false = D.bl (tv (IsM d))) := fun h => by rw [tv_no]; exact fun ⟨q, e, e1⟩ => h q e e1
  cases d with
  | ref _ => simp [Pb] at hd
  | scr _ => simp [Pb] at hd
  | tup ds =>
    simp only [Pb] at hd
    have hp := pbs_mem.mp hd.2
    simp_arith only
    by_cases h1 : 2 ≤ ds.length
    · have h1' : (2 : Int) ≤ (ds.length : Nat) := by omega
      by_cases h2 : ds.length ≤ 3
      · have h2' : ((ds.length : Nat) : Int) ≤ 3 := by omega
        simp_arith only [h1', h2']
        refine allD_lc (IsCh 1 6) rfl hd.1 ?_ ?_
        · intro d hm
          simp_arith only [wipe_1, List.set_cons_succ, List.set_cons_zero]
          rw [show d_are_chances S.length [d, .int 1, .int 6] S = _ from are_chances_c (lo := 1) (hi := 6) (hp d hm) hn (by omega)]
          simp_arith only
        · by_cases hall : ∀ d ∈ ds, IsCh 1 6 d
          · obtain ⟨m, rfl, hm⟩ := map_of (f := rowD) (P := fun l => 1 ≤ l.length ∧ l.length ≤ 6 ∧ Ch l) hall
            rw [List.length_map] at h1 h2
            obtain ⟨r0, m', rfl⟩ : ∃ r m', m = r :: m' := by
              cases m with
              | nil => simp at h1
              | cons r m' => exact ⟨r, m', rfl⟩
            rw [tv_of hall]
            simp_arith only
            have hr0 := hm r0 List.mem_cons_self
            have hml : (r0 :: m').length ≤ 10000 := by omega
            rw [← List.map_cons (f := rowD)]
            refine all_lc (fun l : List Rat => l.length = r0.length) rfl hml ?_ ?_
            · intro l hl
              simp_arith only [wipe_1, List.set_cons_succ, List.set_cons_zero]
              rw [tv_eq (b := decide (((l.length : Nat) : Int) = (r0.length : Nat)))]
              rw [decide_eq_true_eq]; omega
            · by_cases hlen : ∀ l ∈ r0 :: m', l.length = r0.length
              · simp_arith only [tv_of hlen, rng1_c (show r0.length ≤ 1000000 by omega)]
                refine all_lc (fun j : Nat => ∃ l ∈ r0 :: m', 0 < l.getD j 0) rfl (by simp; omega) ?_ ?_
                · intro j hj
                  have hj := List.mem_range.mp hj
                  simp_arith only [wipe_1, List.set_cons_succ, List.set_cons_zero]
                  rw [← List.map_cons (f := rowD)]
                  refine any_lc (fun l : List Rat => 0 < l.getD j 0) rfl hml ?_ ?_
                  · intro l hl
                    have hjl : j < l.length := by rw [hlen l hl]; exact hj
                    simp_arith only [↓ix_row_c hjl, wipe_1, List.set_cons_succ, List.set_cons_zero]
                    congr 1
                    symm
                    refine tv_eq ?_
                    rw [decide_eq_true_eq]
                    rw [Rat.lt_iff]; simp
                  · simp_arith only
                · simp_arith only
                  congr 1
                  refine tv_iff ⟨fun h => ⟨r0 :: m', rfl, ⟨h1, h2, fun r hr => (hm r hr).2.2, hlen, hr0.1, hr0.2.1, fun j hj => h j (List.mem_range.mpr hj)⟩⟩, fun ⟨m2, e, v⟩ => ?_⟩
                  have e : mdl (r0 :: m') = mdl m2 := e
                  rw [← mdl_eq.mp e] at v
                  exact fun j hj => v.pos j (List.mem_range.mp hj)
              · simp_arith only [tv_no hlen]
                refine no (p := True) fun m2 e v => hlen ?_
                have e : mdl (r0 :: m') = mdl m2 := e
                rw [← mdl_eq.mp e] at v
                exact v.w
          · simp_arith only [tv_no hall]
            refine no (p := True) fun m2 e v => hall ?_
            rw [D.tup.inj e]
            intro d hd
            obtain ⟨r, hr, rfl⟩ := List.mem_map.mp hd
            exact ⟨r, rfl, by rw [v.w r hr]; exact v.w1, by rw [v.w r hr]; exact v.w6, v.ch r hr⟩
      · have h2' : ¬ ((ds.length : Nat) : Int) ≤ 3 := by omega
        simp_arith only [h1', h2']
        refine no (p := True) fun m e v => h2 ?_
        have := v.n3
        rw [D.tup.inj e]; simpa using this
    · have h1' : ¬ (2 : Int) ≤ (ds.length : Nat) := by omega
      simp_arith only [h1']
      refine no (p := True) fun m e v => h1 ?_
      have := v.n2
      rw [D.tup.inj e]; simpa using this
  | _ => simp_arith only; exact no (p := True) fun q e => by cases e
end Lb
namespace Mn
/-- the number of a thing -/
def IsI (lo hi : Int) (d : D) : Prop := ∃ i, d = .int i ∧ lo ≤ i ∧ i ≤ hi
end Mn
namespace Lb
open PySem Mn
theorem is_integer_c {b n : Nat} {lo hi : Int} {S : Store} {d : D} (hd : Pb n d) : d_is_integer b [d, .int lo, .int hi] S = .ok (.bl (tv (IsI lo hi d))) S := by
  refine run_eq rfl rfl ?_
  unfold b_is_integer
  have no : ∀ {p : Prop}, (∀ i, d ≠ .int i) → (D.bl false = D.bl (tv (IsI lo hi d))) := fun h => by rw [tv_no]; exact fun ⟨q, e, e1⟩ => h q e
  cases d with
  | ref _ => simp [Pb] at hd
  | scr _ => simp [Pb] at hd
  | int i =>
    have : tv (IsI lo hi (.int i)) = (decide (lo ≤ i) && decide (i ≤ hi)) := tv_eq (by
      rw [Bool.and_eq_true, decide_eq_true_eq, decide_eq_true_eq]
      exact ⟨fun h => ⟨i, rfl, h⟩, fun ⟨j, e, h⟩ => by cases e; exact h⟩)
    rw [this]
    simp_arith only
    by_cases h1 : lo ≤ i
    · simp_arith only [h1, Bool.true_and]
    · simp_arith only [h1, Bool.false_and]
  | _ => simp_arith only; exact no (p := True) fun q e => by cases e
end Lb
namespace Mn
def IsL (s : Nat) (d : D) : Prop := ∃ l, d = losD l ∧ VL s l
end Mn
namespace Lb
open PySem Mn
end Lb
namespace Mn
def IsLr (s : Nat) (d : D) : Prop := ∃ l : List Int, d = intsD l ∧ l.length = s ∧ ∀ i ∈ l, -99 ≤ i ∧ i ≤ 99
end Mn
namespace Lb
open PySem Mn
theorem are_valid_losses_c {b n : Nat} {S : Store} {u d : D} {ms : List D} (hu : SqD u ms) (hd : Pb n d) : d_are_valid_losses b [u, d] S = .ok (.bl (tv (IsL ms.length d))) S := by
  refine run_eq rfl rfl ?_
  unfold b_are_valid_losses
  have no : ∀ {p : Prop}, (∀ l, d = losD l → VL ms.length l → False) → (D.bl false = D.bl (tv (IsL ms.length d))) := fun h => by rw [tv_no]; exact fun ⟨q, e, e1⟩ => h q e e1
  cases d with
  | ref _ => simp [Pb] at hd
  | scr _ => simp [Pb] at hd
  | tup ds =>
    simp only [Pb] at hd
    have hp := pbs_mem.mp hd.2
    simp_arith only
    by_cases h1 : 1 ≤ ds.length
    · have h1' : (1 : Int) ≤ (ds.length : Nat) := by omega
      by_cases h2 : ds.length ≤ 3
      · have h2' : ((ds.length : Nat) : Int) ≤ 3 := by omega
        simp_arith only [h1', h2']
        refine forD_wp (fun pre ρ S' => S' = S ∧ (∃ o2 o3, ρ = [some u, some (.tup ds), o2, o3]) ∧ ∀ d ∈ pre, IsLr ms.length d) (fun _ _ _ _ => rfl) ⟨rfl, ⟨none, none, rfl⟩, fun _ h => by simp at h⟩ ?_ ?_
        · rintro pre a post e ρ S' ⟨rfl, ⟨o2, o3, rfl⟩, hpre⟩
          have ha : a ∈ ds := by rw [e]; simp
          have hpa := hp a ha
          have no' : (¬ IsLr ms.length a) → (D.bl false = D.bl (tv (IsL ms.length (.tup ds)))) := fun h => no (p := True) fun l el v => h (by
            rw [D.tup.inj el] at ha
            obtain ⟨r, hr, rfl⟩ := List.mem_map.mp ha
            exact ⟨r, rfl, v.w r hr, v.b r hr⟩)
          have nx : IsLr ms.length a → ∀ d ∈ pre ++ [a], IsLr ms.length d := fun h d hd => by
            rcases List.mem_append.mp hd with h' | h'
            · exact hpre d h'
            · rw [List.mem_singleton.mp h']; exact h
          cases a with
          | ref _ => simp [Pb] at hpa
          | scr _ => simp [Pb] at hpa
          | tup as =>
            simp only [Pb] at hpa
            have hp2 := pbs_mem.mp hpa.2
            simp_arith only [len_c hu]
            by_cases h3 : as.length = ms.length
            · have h3' : ((as.length : Nat) : Int) = (ms.length : Nat) := by omega
              simp_arith only [h3']
              refine allD_lc (IsI (-99) 99) rfl hpa.1 ?_ ?_
              · intro d hm
                simp_arith only [wipe_1, List.set_cons_succ, List.set_cons_zero, is_integer_c (hp2 d hm)]
              · by_cases hall : ∀ d ∈ as, IsI (-99) 99 d
                · obtain ⟨l, rfl, hl⟩ := map_of hall
                  simp_arith only [tv_of hall]
                  exact ⟨⟨_, _, rfl⟩, nx ⟨l, rfl, by simpa using h3, hl⟩⟩
                · simp_arith only [tv_no hall]
                  refine no' fun ⟨l, el, _, h⟩ => hall fun d hm => ?_
                  rw [D.tup.inj el] at hm
                  obtain ⟨i, hi, rfl⟩ := List.mem_map.mp hm
                  exact ⟨i, rfl, h i hi⟩
            · have h3' : ¬ ((as.length : Nat) : Int) = (ms.length : Nat) := by omega
              simp_arith only [h3']
              refine no' fun ⟨l, el, h, _⟩ => h3 ?_
              rw [D.tup.inj el]; simpa using h
          | _ => simp_arith only; exact no' fun ⟨l, el, _⟩ => by cases el
        · rintro ρ S' ⟨rfl, ⟨o2, o3, rfl⟩, hall⟩
          obtain ⟨l, rfl, hl⟩ := map_of (f := intsD) (P := fun r : List Int => r.length = ms.length ∧ ∀ i ∈ r, -99 ≤ i ∧ i ≤ 99) hall
          rw [List.length_map] at h1 h2
          simp_arith only
          rw [tv_of]
          exact ⟨l, rfl, h1, h2, fun r hr => (hl r hr).1, fun r hr => (hl r hr).2⟩
      · have h2' : ¬ ((ds.length : Nat) : Int) ≤ 3 := by omega
        simp_arith only [h1', h2']
        refine no (p := True) fun m e v => h2 ?_
        have := v.n3
        rw [D.tup.inj e]; simpa using this
    · have h1' : ¬ (1 : Int) ≤ (ds.length : Nat) := by omega
      simp_arith only [h1']
      refine no (p := True) fun m e v => h1 ?_
      have := v.n1
      rw [D.tup.inj e]; simpa using this
  | _ => simp_arith only; exact no (p := True) fun q e => by cases e
end Lb
namespace Mn
/-- a rule -/
def IsR (w a : Nat) (d : D) : Prop := ∃ rs : List Nat, d = natsD rs ∧ rs.length = w ∧ ∀ i ∈ rs, i < a
end Mn
namespace Lb
open PySem Mn
theorem is_valid_rule_c {b n : Nat} {S : Store} {v d : D} {ls : List D} {r0 : List Rat} {rest : List D} (hv : SqD v ls) (hd : Pb n d) : d_is_valid_rule b [.tup (rowD r0 :: rest), v, d] S = .ok (.bl (tv (IsR r0.length ls.length d))) S := by
  refine run_eq rfl rfl ?_
  unfold b_is_valid_rule
  have no : ∀ {p : Prop}, (∀ rs, d = natsD rs → rs.length = r0.length → (∀ i ∈ rs, i < ls.length) → False) → (D.bl false = D.bl (tv (IsR r0.length ls.length d))) := fun h => by rw [tv_no]; exact fun ⟨q, e, e1, e2⟩ => h q e e1 e2
  cases d with
  | ref _ => simp [Pb] at hd
  | scr _ => simp [Pb] at hd
  | tup ds =>
    simp only [Pb] at hd
    have hp := pbs_mem.mp hd.2
    simp_arith only
    by_cases h1 : ds.length = r0.length
    · have h1' : ((ds.length : Nat) : Int) = (r0.length : Nat) := by omega
      simp_arith only [h1']
      refine allD_lc (IsI 0 ((ls.length : Nat) - 1)) rfl hd.1 ?_ ?_
      · intro d hm
        simp_arith only [wipe_1, List.set_cons_succ, List.set_cons_zero, len_c hv, is_integer_c (hp d hm)]
      · simp_arith only
        congr 1
        refine tv_iff ⟨fun h => ?_, fun ⟨rs, e, _, h⟩ d hm => ?_⟩
        · obtain ⟨l, rfl, hl⟩ := map_of (f := fun a : Nat => D.int (a : Nat)) (P := fun a => a < ls.length) (fun d hm => by
            obtain ⟨i, e, h0, h1⟩ := h d hm
            exact ⟨i.toNat, by rw [e]; congr 1; omega, by omega⟩)
          exact ⟨l, rfl, by simpa using h1, hl⟩
        · rw [D.tup.inj e] at hm
          obtain ⟨i, hi, rfl⟩ := List.mem_map.mp hm
          have := h i hi
          exact ⟨i, rfl, by omega, by omega⟩
    · have h1' : ¬ ((ds.length : Nat) : Int) = (r0.length : Nat) := by omega
      simp_arith only [h1']
      refine no (p := True) fun l el h _ => h1 ?_
      rw [D.tup.inj el]; simpa using h
  | _ => simp_arith only; exact no (p := True) fun q e => by cases e
end Lb
namespace Mn
/-- a mixed rule -/
def IsX (w a : Nat) (d : D) : Prop := ∃ x, d = mdl x ∧ VX w a x
end Mn
namespace Lb
open PySem Mn
theorem is_valid_mixed_c {b n : Nat} {S : Store} {v d : D} {ls : List D} {r0 : List Rat} {rest : List D} (hv : SqD v ls) (hd : Pb n d) (hn : n ≤ 700) (hl : ls.length ≤ 10) : d_is_valid_mixed b [.tup (rowD r0 :: rest), v, d] S = .ok (.bl (tv (IsX r0.length ls.length d))) S := by
  refine run_eq rfl rfl ?_
  unfold b_is_valid_mixed
  have no : ∀ {p : Prop}, (∀ x, d = mdl x → VX r0.length ls.length x → False) → (D.bl false = D.bl (tv (IsX r0.length ls.length d))) := fun h => by rw [tv_no]; exact fun ⟨q, e, e1⟩ => h q e e1
  cases d with
  | ref _ => simp [Pb] at hd
  | scr _ => simp [Pb] at hd
  | tup ds =>
    simp only [Pb] at hd
    have hp := pbs_mem.mp hd.2
    simp_arith only
    by_cases h1 : ds.length = r0.length
    · have h1' : ((ds.length : Nat) : Int) = (r0.length : Nat) := by omega
      simp_arith only [h1']
      refine allD_lc (IsCh ls.length ls.length) rfl hd.1 ?_ ?_
      · intro d hm
        simp_arith only [wipe_1, List.set_cons_succ, List.set_cons_zero, len_c hv, are_chances_c (hp d hm) hn hl]
      · simp_arith only
        congr 1
        refine tv_iff ⟨fun h => ?_, fun ⟨x, e, h⟩ d hm => ?_⟩
        · obtain ⟨l, rfl, hl⟩ := map_of (f := rowD) (P := fun l => ls.length ≤ l.length ∧ l.length ≤ ls.length ∧ Ch l) h
          exact ⟨l, rfl, by simpa using h1, fun r hr => ⟨by have := hl r hr; omega, (hl r hr).2.2⟩⟩
        · rw [D.tup.inj e] at hm
          obtain ⟨i, hi, rfl⟩ := List.mem_map.mp hm
          have := h.2 i hi
          exact ⟨i, rfl, by omega, by omega, this.2⟩
    · have h1' : ¬ ((ds.length : Nat) : Int) = (r0.length : Nat) := by omega
      simp_arith only [h1']
      refine no (p := True) fun l el h => h1 ?_
      rw [D.tup.inj el]; simpa using h.1
  | _ => simp_arith only; exact no (p := True) fun q e => by cases e
end Lb

/-! Plain: what is asked of arguments. -/
local macro_rules
  | `(tactic| simp_arith only [$args,*]) => `(tactic| simp only [↓Mn.tcaseB_bl, ↓Mn.cps_ok, ↓Mn.cps_exc, ↓Mn.cps_stuck, ↓Mn.bind_is, ↓Mn.st_is, ↓Mn.only_is, ↓Mn.cps_cps, ↓Mn.bind_cps, ↓Mn.tcase_some, ↓Mn.cps_ite, ↓Mn.rdV_some, ↓Mn.ev_var, ↓Mn.ev_frz, ↓Mn.ev_cst, ↓Mn.ev_tup, ↓Mn.ev_lst, ↓Mn.ev_bin, ↓Mn.ev_neg, ↓Mn.ev_not, ↓Mn.ev_cmp, ↓Mn.ev_chain, ↓Mn.ev_ite, ↓Mn.ev_and, ↓Mn.ev_or, ↓Mn.ev_a1, ↓Mn.ev_r1, ↓Mn.ev_a2, ↓Mn.ev_r2, ↓Mn.ev_ix, ↓Mn.ev_sl, ↓Mn.ev_rev, ↓Mn.ev_call, ↓Mn.ev_bi, ↓Mn.ev_isi, ↓Mn.ev_bm, ↓Mn.ev_lc, ↓Mn.ev_nil, ↓Mn.ev_cons, ↓Mn.ev_o0, ↓Mn.ev_o1, ↓Mn.ev_iexp, ↓Mn.ev_irng1, ↓Mn.ev_irng2, ↓Mn.ev_ienum, ↓Mn.ev_izip, ↓Mn.tcase_bl, ↓Mn.tcase_int, ↓Mn.tcase_non, ↓Mn.tcase_tup, ↓Mn.tcase_lst, ↓Mn.tcase_scr, ↓Mn.bin_add_c, ↓Mn.bin_sub_c, ↓Mn.neg_int_c, ↓Mn.cmp_lt_c, ↓Mn.cmp_le_c, ↓Mn.cmp_gt_c, ↓Mn.cmp_ge_c, ↓Mn.cmp_eqi_c, ↓Mn.cmp_nei_c, ↓Mn.itr_tup_c, ↓Mn.itr_lst_c, ↓Mn.itr_scr_c, ↓Mn.len_seq_c, ↓Mn.len_lst_c, ↓Mn.len_scr_c, ↓Mn.bi_abs_c, ↓Mn.ofO_some_c, ↓Mn.newT_0_c, ↓Mn.newL_0_c, ↓Mn.newT_1_c, ↓Mn.newL_1_c, ↓Mn.newT_2_c, ↓Mn.newL_2_c, ↓Mn.newT_3_c, ↓Mn.newL_3_c, ↓Mn.newT_4_c, ↓Mn.newL_4_c, ↓Mn.newT_5_c, ↓Mn.newL_5_c, ↓Mn.newT_6_c, ↓Mn.newL_6_c, ↓Mn.newT_7_c, ↓Mn.newL_7_c, ↓Mn.newT_8_c, ↓Mn.newL_8_c, ↓Mn.newT_9_c, ↓Mn.newL_9_c, ↓Mn.isi_non_int_c, ↓Mn.isi_non_bool_c, ↓Mn.isi_non_str_c, ↓Mn.isi_non_tuple_c, ↓Mn.isi_non_list_c, ↓Mn.isi_bl_int_c, ↓Mn.isi_bl_bool_c, ↓Mn.isi_bl_str_c, ↓Mn.isi_bl_tuple_c, ↓Mn.isi_bl_list_c, ↓Mn.isi_int_int_c, ↓Mn.isi_int_bool_c, ↓Mn.isi_int_str_c, ↓Mn.isi_int_tuple_c, ↓Mn.isi_int_list_c, ↓Mn.isi_str_int_c, ↓Mn.isi_str_bool_c, ↓Mn.isi_str_str_c, ↓Mn.isi_str_tuple_c, ↓Mn.isi_str_list_c, ↓Mn.isi_tup_int_c, ↓Mn.isi_tup_bool_c, ↓Mn.isi_tup_str_c, ↓Mn.isi_tup_tuple_c, ↓Mn.isi_tup_list_c, ↓Mn.isi_lst_int_c, ↓Mn.isi_lst_bool_c, ↓Mn.isi_lst_str_c, ↓Mn.isi_lst_tuple_c, ↓Mn.isi_lst_list_c, ↓Mn.ix_t0_c, ↓Mn.ix_t1_c, ↓Mn.ix_l0_c, ↓Mn.ix_l1_c, ↓Mn.wp_nx, ↓Mn.wp_rt, ↓Mn.wp_exc, ↓Mn.wp_stuck, ↓Mn.wp_ite, ↓Mn.wpV_zero, ↓Mn.wpV_succ, ↓Mn.wpB_one, ↓Mn.wpB_2, ↓Mn.wpB_3, ↓Mn.wp_nil, ↓Mn.wp_cons, ↓Mn.wp_asg, ↓Mn.wp_put, ↓Mn.wp_asgT, ↓Mn.wp_tupS, ↓Mn.wp_ts0, ↓Mn.wp_tsV, ↓Mn.wp_tsS, ↓Mn.wp_par, ↓Mn.wp_expr, ↓Mn.wp_ret, ↓Mn.wp_if, ↓Mn.wp_for, ↓Mn.wp_while, ↓Mn.wp_rais, ↓Mn.wp_try, ↓Mn.hnd_cons, ↓Mn.enum_c, ↓Mn.enumL_c, ↓Mn.tuple_c, ↓Mn.tupleT_c, ↓Mn.fr_ix0, ↓Mn.fr_ix1, ↓Mn.eq_fr_c, ↓Mn.ne_fr_c, ↓Mn.ix_row, ↓Mn.len_row, ↓Mn.len_mdl, ↓Mn.len_los, ↓Mn.ix_mdl0, ↓Mn.isi_row_tuple, ↓Mn.cmp_is_c, ↓Mn.cmp_isnot_c, ↓Mn.cell_tup_c, ↓Mn.newL_nil_c, ↓Mn.slT_1, ↓Mn.slT_t1, ↓Mn.slT_t2, ↓Mn.slT_t4, ↓Mn.slT_l, ↓Mn.listT_c, ↓Mn.listL_c, ↓Mn.itr_rowD, ↓Mn.enum_rowD, ↓Mn.sl_rowD_1, ↓Mn.sl_rowD_t1, ↓Mn.sl_rowD_t2, ↓Mn.sl_rowD_t4, ↓Mn.sl_rowD_l, ↓Mn.list_rowD, ↓Mn.itr_mdl, ↓Mn.enum_mdl, ↓Mn.sl_mdl_1, ↓Mn.sl_mdl_t1, ↓Mn.sl_mdl_t2, ↓Mn.sl_mdl_t4, ↓Mn.sl_mdl_l, ↓Mn.list_mdl, ↓Mn.itr_losD, ↓Mn.enum_losD, ↓Mn.sl_losD_1, ↓Mn.sl_losD_t1, ↓Mn.sl_losD_t2, ↓Mn.sl_losD_t4, ↓Mn.sl_losD_l, ↓Mn.list_losD, ↓Mn.itr_intsD, ↓Mn.enum_intsD, ↓Mn.sl_intsD_1, ↓Mn.sl_intsD_t1, ↓Mn.sl_intsD_t2, ↓Mn.sl_intsD_t4, ↓Mn.sl_intsD_l, ↓Mn.list_intsD, ↓Mn.len_intsD, ↓Mn.itr_natsD, ↓Mn.enum_natsD, ↓Mn.sl_natsD_1, ↓Mn.sl_natsD_t1, ↓Mn.sl_natsD_t2, ↓Mn.sl_natsD_t4, ↓Mn.sl_natsD_l, ↓Mn.list_natsD, ↓Mn.len_natsD, ↓Mn.nebl_c, ↓Mn.nes_InvalidModel, ↓Mn.eqs_InvalidModel, ↓Mn.nes_InvalidLosses, ↓Mn.eqs_InvalidLosses, ↓Mn.nes_InvalidRule, ↓Mn.eqs_InvalidRule, ↓Mn.nes_InvalidMixed, ↓Mn.eqs_InvalidMixed, ↓Mn.nes_InvalidBelief, ↓Mn.eqs_InvalidBelief, ↓Mn.nes_InvalidObservation, ↓Mn.eqs_InvalidObservation, ↓Mn.nes_InvalidGrouping, ↓Mn.eqs_InvalidGrouping, ↓Mn.nes_NotSufficient, ↓Mn.eqs_NotSufficient, ↓Mn.nes_InvalidNumbers, ↓Mn.eqs_InvalidNumbers, ↓Mn.nes_InvalidEstimate, ↓Mn.eqs_InvalidEstimate, ↓Mn.nes_InvalidState, ↓Mn.eqs_InvalidState, ↓Mn.nes_ZeroChance, ↓Mn.eqs_ZeroChance, ↓Mn.nes_NoEstimate, ↓Mn.eqs_NoEstimate, ↓Mn.nes_UnlikeStates, ↓Mn.eqs_UnlikeStates, ↓Mn.nes_TooLarge, ↓Mn.eqs_TooLarge, ↓Mn.nes_InvalidTable, ↓Mn.eqs_InvalidTable, ↓Mn.nes_Impossible, ↓Mn.eqs_Impossible, ↓Mn.nes_NothingToUndo, ↓Mn.eqs_NothingToUndo, ↓Mn.nes_ParseError, ↓Mn.eqs_ParseError, Mn.truD_bl, Mn.truD_int, Mn.truD_non, Mn.truD_tup, Mn.truD_lst, Mn.truD_scr, Mn.tru1_bl, Mn.tru1_int, Mn.shaped_int, Mn.eqv_int, Mn.sq_tup, Mn.sq_lst, Mn.sq_scr, Mn.lst_lst, Mn.at_0, Mn.at_1, Mn.take_self, Mn.take_app, Mn.isNon_non, Mn.isNon_bl, Mn.isNon_int, Mn.isNon_str, Mn.isNon_tup, Mn.isNon_lst, Mn.isNon_fr, Mn.isNon_row, Mn.isNon_mdl, Mn.cell_at, Mn.cell_lst, Mn.intO_n, Mn.intO_i, Mn.isSome_s, Mn.isNon_intsD, Mn.isNon_natsD, List.getElem?_cons_zero, List.getElem?_cons_succ, ↓reduceIte, List.map_cons, List.map_nil, List.replicate, List.append, List.cons_append, List.nil_append, List.length_cons, List.length_nil, Nat.reduceSub, Nat.reduceAdd, Nat.sub_self, Bool.false_eq_true, Bool.not_true, Bool.not_false, decide_true, decide_false, List.length_map, bne_self_eq_false, and_true, true_and, and_self, $args,*])
  | `(tactic| simp_arith only) => `(tactic| simp only [↓Mn.tcaseB_bl, ↓Mn.cps_ok, ↓Mn.cps_exc, ↓Mn.cps_stuck, ↓Mn.bind_is, ↓Mn.st_is, ↓Mn.only_is, ↓Mn.cps_cps, ↓Mn.bind_cps, ↓Mn.tcase_some, ↓Mn.cps_ite, ↓Mn.rdV_some, ↓Mn.ev_var, ↓Mn.ev_frz, ↓Mn.ev_cst, ↓Mn.ev_tup, ↓Mn.ev_lst, ↓Mn.ev_bin, ↓Mn.ev_neg, ↓Mn.ev_not, ↓Mn.ev_cmp, ↓Mn.ev_chain, ↓Mn.ev_ite, ↓Mn.ev_and, ↓Mn.ev_or, ↓Mn.ev_a1, ↓Mn.ev_r1, ↓Mn.ev_a2, ↓Mn.ev_r2, ↓Mn.ev_ix, ↓Mn.ev_sl, ↓Mn.ev_rev, ↓Mn.ev_call, ↓Mn.ev_bi, ↓Mn.ev_isi, ↓Mn.ev_bm, ↓Mn.ev_lc, ↓Mn.ev_nil, ↓Mn.ev_cons, ↓Mn.ev_o0, ↓Mn.ev_o1, ↓Mn.ev_iexp, ↓Mn.ev_irng1, ↓Mn.ev_irng2, ↓Mn.ev_ienum, ↓Mn.ev_izip, ↓Mn.tcase_bl, ↓Mn.tcase_int, ↓Mn.tcase_non, ↓Mn.tcase_tup, ↓Mn.tcase_lst, ↓Mn.tcase_scr, ↓Mn.bin_add_c, ↓Mn.bin_sub_c, ↓Mn.neg_int_c, ↓Mn.cmp_lt_c, ↓Mn.cmp_le_c, ↓Mn.cmp_gt_c, ↓Mn.cmp_ge_c, ↓Mn.cmp_eqi_c, ↓Mn.cmp_nei_c, ↓Mn.itr_tup_c, ↓Mn.itr_lst_c, ↓Mn.itr_scr_c, ↓Mn.len_seq_c, ↓Mn.len_lst_c, ↓Mn.len_scr_c, ↓Mn.bi_abs_c, ↓Mn.ofO_some_c, ↓Mn.newT_0_c, ↓Mn.newL_0_c, ↓Mn.newT_1_c, ↓Mn.newL_1_c, ↓Mn.newT_2_c, ↓Mn.newL_2_c, ↓Mn.newT_3_c, ↓Mn.newL_3_c, ↓Mn.newT_4_c, ↓Mn.newL_4_c, ↓Mn.newT_5_c, ↓Mn.newL_5_c, ↓Mn.newT_6_c, ↓Mn.newL_6_c, ↓Mn.newT_7_c, ↓Mn.newL_7_c, ↓Mn.newT_8_c, ↓Mn.newL_8_c, ↓Mn.newT_9_c, ↓Mn.newL_9_c, ↓Mn.isi_non_int_c, ↓Mn.isi_non_bool_c, ↓Mn.isi_non_str_c, ↓Mn.isi_non_tuple_c, ↓Mn.isi_non_list_c, ↓Mn.isi_bl_int_c, ↓Mn.isi_bl_bool_c, ↓Mn.isi_bl_str_c, ↓Mn.isi_bl_tuple_c, ↓Mn.isi_bl_list_c, ↓Mn.isi_int_int_c, ↓Mn.isi_int_bool_c, ↓Mn.isi_int_str_c, ↓Mn.isi_int_tuple_c, ↓Mn.isi_int_list_c, ↓Mn.isi_str_int_c, ↓Mn.isi_str_bool_c, ↓Mn.isi_str_str_c, ↓Mn.isi_str_tuple_c, ↓Mn.isi_str_list_c, ↓Mn.isi_tup_int_c, ↓Mn.isi_tup_bool_c, ↓Mn.isi_tup_str_c, ↓Mn.isi_tup_tuple_c, ↓Mn.isi_tup_list_c, ↓Mn.isi_lst_int_c, ↓Mn.isi_lst_bool_c, ↓Mn.isi_lst_str_c, ↓Mn.isi_lst_tuple_c, ↓Mn.isi_lst_list_c, ↓Mn.ix_t0_c, ↓Mn.ix_t1_c, ↓Mn.ix_l0_c, ↓Mn.ix_l1_c, ↓Mn.wp_nx, ↓Mn.wp_rt, ↓Mn.wp_exc, ↓Mn.wp_stuck, ↓Mn.wp_ite, ↓Mn.wpV_zero, ↓Mn.wpV_succ, ↓Mn.wpB_one, ↓Mn.wpB_2, ↓Mn.wpB_3, ↓Mn.wp_nil, ↓Mn.wp_cons, ↓Mn.wp_asg, ↓Mn.wp_put, ↓Mn.wp_asgT, ↓Mn.wp_tupS, ↓Mn.wp_ts0, ↓Mn.wp_tsV, ↓Mn.wp_tsS, ↓Mn.wp_par, ↓Mn.wp_expr, ↓Mn.wp_ret, ↓Mn.wp_if, ↓Mn.wp_for, ↓Mn.wp_while, ↓Mn.wp_rais, ↓Mn.wp_try, ↓Mn.hnd_cons, ↓Mn.enum_c, ↓Mn.enumL_c, ↓Mn.tuple_c, ↓Mn.tupleT_c, ↓Mn.fr_ix0, ↓Mn.fr_ix1, ↓Mn.eq_fr_c, ↓Mn.ne_fr_c, ↓Mn.ix_row, ↓Mn.len_row, ↓Mn.len_mdl, ↓Mn.len_los, ↓Mn.ix_mdl0, ↓Mn.isi_row_tuple, ↓Mn.cmp_is_c, ↓Mn.cmp_isnot_c, ↓Mn.cell_tup_c, ↓Mn.newL_nil_c, ↓Mn.slT_1, ↓Mn.slT_t1, ↓Mn.slT_t2, ↓Mn.slT_t4, ↓Mn.slT_l, ↓Mn.listT_c, ↓Mn.listL_c, ↓Mn.itr_rowD, ↓Mn.enum_rowD, ↓Mn.sl_rowD_1, ↓Mn.sl_rowD_t1, ↓Mn.sl_rowD_t2, ↓Mn.sl_rowD_t4, ↓Mn.sl_rowD_l, ↓Mn.list_rowD, ↓Mn.itr_mdl, ↓Mn.enum_mdl, ↓Mn.sl_mdl_1, ↓Mn.sl_mdl_t1, ↓Mn.sl_mdl_t2, ↓Mn.sl_mdl_t4, ↓Mn.sl_mdl_l, ↓Mn.list_mdl, ↓Mn.itr_losD, ↓Mn.enum_losD, ↓Mn.sl_losD_1, ↓Mn.sl_losD_t1, ↓Mn.sl_losD_t2, ↓Mn.sl_losD_t4, ↓Mn.sl_losD_l, ↓Mn.list_losD, ↓Mn.itr_intsD, ↓Mn.enum_intsD, ↓Mn.sl_intsD_1, ↓Mn.sl_intsD_t1, ↓Mn.sl_intsD_t2, ↓Mn.sl_intsD_t4, ↓Mn.sl_intsD_l, ↓Mn.list_intsD, ↓Mn.len_intsD, ↓Mn.itr_natsD, ↓Mn.enum_natsD, ↓Mn.sl_natsD_1, ↓Mn.sl_natsD_t1, ↓Mn.sl_natsD_t2, ↓Mn.sl_natsD_t4, ↓Mn.sl_natsD_l, ↓Mn.list_natsD, ↓Mn.len_natsD, ↓Mn.nebl_c, ↓Mn.nes_InvalidModel, ↓Mn.eqs_InvalidModel, ↓Mn.nes_InvalidLosses, ↓Mn.eqs_InvalidLosses, ↓Mn.nes_InvalidRule, ↓Mn.eqs_InvalidRule, ↓Mn.nes_InvalidMixed, ↓Mn.eqs_InvalidMixed, ↓Mn.nes_InvalidBelief, ↓Mn.eqs_InvalidBelief, ↓Mn.nes_InvalidObservation, ↓Mn.eqs_InvalidObservation, ↓Mn.nes_InvalidGrouping, ↓Mn.eqs_InvalidGrouping, ↓Mn.nes_NotSufficient, ↓Mn.eqs_NotSufficient, ↓Mn.nes_InvalidNumbers, ↓Mn.eqs_InvalidNumbers, ↓Mn.nes_InvalidEstimate, ↓Mn.eqs_InvalidEstimate, ↓Mn.nes_InvalidState, ↓Mn.eqs_InvalidState, ↓Mn.nes_ZeroChance, ↓Mn.eqs_ZeroChance, ↓Mn.nes_NoEstimate, ↓Mn.eqs_NoEstimate, ↓Mn.nes_UnlikeStates, ↓Mn.eqs_UnlikeStates, ↓Mn.nes_TooLarge, ↓Mn.eqs_TooLarge, ↓Mn.nes_InvalidTable, ↓Mn.eqs_InvalidTable, ↓Mn.nes_Impossible, ↓Mn.eqs_Impossible, ↓Mn.nes_NothingToUndo, ↓Mn.eqs_NothingToUndo, ↓Mn.nes_ParseError, ↓Mn.eqs_ParseError, Mn.truD_bl, Mn.truD_int, Mn.truD_non, Mn.truD_tup, Mn.truD_lst, Mn.truD_scr, Mn.tru1_bl, Mn.tru1_int, Mn.shaped_int, Mn.eqv_int, Mn.sq_tup, Mn.sq_lst, Mn.sq_scr, Mn.lst_lst, Mn.at_0, Mn.at_1, Mn.take_self, Mn.take_app, Mn.isNon_non, Mn.isNon_bl, Mn.isNon_int, Mn.isNon_str, Mn.isNon_tup, Mn.isNon_lst, Mn.isNon_fr, Mn.isNon_row, Mn.isNon_mdl, Mn.cell_at, Mn.cell_lst, Mn.intO_n, Mn.intO_i, Mn.isSome_s, Mn.isNon_intsD, Mn.isNon_natsD, List.getElem?_cons_zero, List.getElem?_cons_succ, ↓reduceIte, List.map_cons, List.map_nil, List.replicate, List.append, List.cons_append, List.nil_append, List.length_cons, List.length_nil, Nat.reduceSub, Nat.reduceAdd, Nat.sub_self, Bool.false_eq_true, Bool.not_true, Bool.not_false, decide_true, decide_false, List.length_map, bne_self_eq_false, and_true, true_and, and_self])
namespace Mn
open PySem
/-- an exception unless .. -/
noncomputable def ck (P : Prop) (c : Nat) (S : Store) (r : Res D) : Res D := if tv P = true then r else .exc c S
theorem ck_ok {P : Prop} {c : Nat} {S : Store} {r : Res D} (h : P) : ck P c S r = r := if_pos (tv_of h)
theorem ck_no {P : Prop} {c : Nat} {S : Store} {r : Res D} (h : ¬ P) : ck P c S r = .exc c S := if_neg (by rw [tv_no h]; decide)
@[simp ↓] theorem ck_c {β : Type} {P : Prop} {c : Nat} {S : Store} {r : Res D} {k : D → Store → β} {x : Nat → Store → β} {z : β} : (ck P c S r).cps k x z = if tv P = true then r.cps k x z else x c S := by
  unfold ck
  rw [cps_ite, cps_exc]
theorem run_val {n m : Nat} {body : MSs} {b : Nat} {args : List D} {S : Store} {v : Res D} (hl : args.length = n)
    (h : (evSs S.length body (args.map some ++ List.replicate (m - n) none) S).wp (fun _ S' => v = .ok .non S ∧ S'.take S.length = S) (fun d S' => D.pure d = true ∧ v = .ok d S ∧ S'.take S.length = S) (fun c S' => v = .exc c S ∧ S'.take S.length = S)) :
    run false n m body b args S = v := by
  have h2 := (run_cps (b := b) (Q := fun d S' => v = .ok d S' ∧ S' = S) (X := fun c S' => v = .exc c S' ∧ S' = S) hl (wp_then h (fun _ _ h => ⟨by rw [h.2]; exact h.1, h.2⟩) (fun d S' h => ⟨h.1, by rw [h.2.2]; exact h.2.1, h.2.2⟩) (fun _ _ h => ⟨by rw [h.2]; exact h.1, h.2⟩))).cps
  revert h2
  generalize run false n m body b args S = r
  intro h2
  cases r with
  | ok a S' => rw [cps_ok] at h2; exact h2.1.symm
  | exc c S' => rw [cps_exc] at h2; exact h2.1.symm
  | stuck => rw [cps_stuck] at h2; exact h2.elim
/-- plain data, not too great -/
def Pd (d : D) : Prop := Pb 200 d
/-- how many items -/
def nl : D → Nat
  | .tup ds => ds.length
  | _ => 0
def it0 : D → D
  | .tup (d :: _) => d
  | _ => .non
@[simp] theorem nl_mdl {m : List (List Rat)} : nl (mdl m) = m.length := by simp [nl, mdl]
@[simp] theorem nl_row {m : List Rat} : nl (rowD m) = m.length := by simp [nl, rowD]
@[simp] theorem nl_los {m : List (List Int)} : nl (losD m) = m.length := by simp [nl, losD]
@[simp] theorem nl_ints {m : List Int} : nl (intsD m) = m.length := by simp [nl, intsD]
@[simp] theorem wd_mdl {m : List (List Rat)} : nl (it0 (mdl m)) = wd m := by
  cases m with
  | nil => rfl
  | cons r m => simp [it0, mdl, nl, rowD, wd]
theorem Pb.mono {n m : Nat} (h : n ≤ m) : ∀ {d : D}, Pb n d → Pb m d := by
  have key : ∀ (k : Nat) (d : D), sizeOf d < k → Pb n d → Pb m d := by
    intro k
    induction k with
    | zero => intro d h; omega
    | succ k ih =>
      intro d hk hd
      cases d with
      | int i => simp only [Pb] at hd ⊢; exact hd.mono h
      | tup ds =>
        simp only [Pb] at hd ⊢
        exact ⟨hd.1, pbs_mem.mpr fun e he => ih e (by have := List.sizeOf_lt_of_mem he; simp only [D.tup.sizeOf_spec] at hk; omega) (pbs_mem.mp hd.2 e he)⟩
      | lst ds =>
        simp only [Pb] at hd ⊢
        exact ⟨hd.1, pbs_mem.mpr fun e he => ih e (by have := List.sizeOf_lt_of_mem he; simp only [D.lst.sizeOf_spec] at hk; omega) (pbs_mem.mp hd.2 e he)⟩
      | ref _ => simp [Pb] at hd
      | scr _ => simp [Pb] at hd
      | _ => simp [Pb]
  exact fun {d} hd => key _ d (Nat.lt_succ_self _) hd
theorem pb_row {n : Nat} {l : List Rat} (h : Szs n l) (hl : l.length ≤ 10000) : Pb n (rowD l) := by
  simp only [rowD, Pb, List.length_map]
  exact ⟨hl, pbs_mem.mpr fun d hd => by
    obtain ⟨q, hq, rfl⟩ := List.mem_map.mp hd
    exact pb_fr (h q hq)⟩
theorem pb_mdl {n : Nat} {m : List (List Rat)} (h : ∀ r ∈ m, Szs n r ∧ r.length ≤ 10000) (hl : m.length ≤ 10000) : Pb n (mdl m) := by
  simp only [mdl, Pb, List.length_map]
  exact ⟨hl, pbs_mem.mpr fun d hd => by
    obtain ⟨q, hq, rfl⟩ := List.mem_map.mp hd
    exact pb_row (h q hq).1 (h q hq).2⟩
theorem pb_ints {n : Nat} {l : List Int} (h : ∀ i ∈ l, Bt n i) (hl : l.length ≤ 10000) : Pb n (intsD l) := by
  simp only [intsD, Pb, List.length_map]
  exact ⟨hl, pbs_mem.mpr fun d hd => by
    obtain ⟨q, hq, rfl⟩ := List.mem_map.mp hd
    exact h q hq⟩
theorem pb_nats {n : Nat} {l : List Nat} (h : ∀ i ∈ l, i < 2 ^ n) (hl : l.length ≤ 10000) : Pb n (natsD l) := by
  simp only [natsD, Pb, List.length_map]
  exact ⟨hl, pbs_mem.mpr fun d hd => by
    obtain ⟨q, hq, rfl⟩ := List.mem_map.mp hd
    exact Bt.nat (h q hq)⟩
theorem pb_los {n : Nat} {l : List (List Int)} (h : ∀ r ∈ l, (∀ i ∈ r, Bt n i) ∧ r.length ≤ 10000) (hl : l.length ≤ 10000) : Pb n (losD l) := by
  simp only [losD, Pb, List.length_map]
  exact ⟨hl, pbs_mem.mpr fun d hd => by
    obtain ⟨q, hq, rfl⟩ := List.mem_map.mp hd
    exact pb_ints (h q hq).1 (h q hq).2⟩
/-- a model with numbers of so many bits -/
structure Md (n : Nat) (m : List (List Rat)) : Prop where
  v : VM m
  s : ∀ r ∈ m, Szs n r
  n7 : n ≤ 200
theorem Md.pd {n : Nat} {m : List (List Rat)} (h : Md n m) : Pd (mdl m) := Pb.mono h.n7 (pb_mdl (fun r hr => ⟨h.s r hr, by rw [h.v.w r hr]; have := h.v.w6; omega⟩) (by have := h.v.n3; omega))
theorem Md.is {n : Nat} {m : List (List Rat)} (h : Md n m) : IsM (mdl m) := ⟨m, rfl, h.v⟩
theorem is_mdl {m : List (List Rat)} : IsM (mdl m) ↔ VM m := ⟨fun ⟨m', e, v⟩ => by rw [mdl_eq.mp e]; exact v, fun v => ⟨m, rfl, v⟩⟩
theorem VL.pd {s : Nat} {l : List (List Int)} (h : VL s l) (hs : s ≤ 10) : Pd (losD l) := Pb.mono (show 7 ≤ 200 by decide) (pb_los (fun r hr => ⟨fun i hi => bt_of (k := 99) (by have := h.b r hr i hi; omega) (by decide), by rw [h.w r hr]; omega⟩) (by have := h.n3; omega))
theorem VL.is {s : Nat} {l : List (List Int)} (h : VL s l) : IsL s (losD l) := ⟨l, rfl, h⟩
/-- a mixed rule with numbers of so many bits -/
structure Xd (n w a : Nat) (x : List (List Rat)) : Prop where
  v : VX w a x
  s : ∀ r ∈ x, Szs n r
  n7 : n ≤ 200
theorem Xd.pd {n w a : Nat} {x : List (List Rat)} (h : Xd n w a x) (hw : w ≤ 10) (ha : a ≤ 10) : Pd (mdl x) := Pb.mono h.n7 (pb_mdl (fun r hr => ⟨h.s r hr, by rw [(h.v.2 r hr).1]; omega⟩) (by rw [h.v.1]; omega))
theorem Xd.is {n w a : Nat} {x : List (List Rat)} (h : Xd n w a x) : IsX w a (mdl x) := ⟨x, rfl, h.v⟩
/-- a belief -/
structure Bd (n s : Nat) (l : List Rat) : Prop where
  c : Ch l
  w : l.length = s
  s : Szs n l
  n7 : n ≤ 200
theorem Bd.pd {n s : Nat} {l : List Rat} (h : Bd n s l) (hs : s ≤ 10) : Pd (rowD l) := Pb.mono h.n7 (pb_row h.s (by rw [h.w]; omega))
theorem Bd.is {n s : Nat} {l : List Rat} (h : Bd n s l) : IsCh s s (rowD l) := ⟨l, rfl, by rw [h.w]; omega, by rw [h.w]; omega, h.c⟩
theorem IsM.w {u : D} (h : IsM u) : ∃ r0 rest, u = .tup (rowD r0 :: rest) ∧ nl u = rest.length + 1 ∧ nl u ≤ 3 ∧ nl (it0 u) = r0.length ∧ r0.length ≤ 6 ∧ 1 ≤ r0.length := by
  obtain ⟨m, rfl, v⟩ := h
  cases m with
  | nil => exact absurd rfl v.ne
  | cons r m => exact ⟨r, m.map rowD, rfl, by simp, by have := v.n3; simp at this ⊢; omega, by simp [wd], v.w6, v.w1⟩
theorem IsL.sq {s : Nat} {v : D} (h : IsL s v) : ∃ ls, v = .tup ls ∧ nl v = ls.length ∧ ls.length ≤ 3 ∧ 1 ≤ ls.length := by
  obtain ⟨l, rfl, v⟩ := h
  exact ⟨l.map intsD, rfl, by simp, by simpa using v.n3, by simpa using v.n1⟩
/-! what is none -/
theorem IsR.len {w a : Nat} {d : D} (h : IsR w a d) : nl d = w := by
  obtain ⟨rs, rfl, h, _⟩ := h
  simpa [nl, natsD] using h
theorem IsX.len {w a : Nat} {d : D} (h : IsX w a d) : nl d = w := by
  obtain ⟨x, rfl, h, _⟩ := h
  simpa using h
theorem not_R_lst {w a : Nat} {ds : List D} : ¬ IsR w a (.lst ds) := fun ⟨_, e, _⟩ => by cases e
theorem not_X_lst {w a : Nat} {ds : List D} : ¬ IsX w a (.lst ds) := fun ⟨_, e, _⟩ => by cases e
theorem not_R_non {w a : Nat} : ¬ IsR w a .non := fun ⟨_, e, _⟩ => by cases e
theorem not_X_non {w a : Nat} : ¬ IsX w a .non := fun ⟨_, e, _⟩ => by cases e
theorem not_R_int {w a : Nat} {i : Int} : ¬ IsR w a (.int i) := fun ⟨_, e, _⟩ => by cases e
theorem not_X_int {w a : Nat} {i : Int} : ¬ IsX w a (.int i) := fun ⟨_, e, _⟩ => by cases e
theorem not_R_big {w a : Nat} {i : Int} {ds : List D} (h : (a : Int) ≤ i) : ¬ IsR w a (.tup (.int i :: ds)) := fun ⟨rs, e, _, h2⟩ => by
  cases rs with
  | nil => simp [natsD] at e
  | cons r rs =>
    simp only [natsD, List.map_cons, D.tup.injEq, List.cons.injEq, D.int.injEq] at e
    have := h2 r List.mem_cons_self
    omega
theorem not_R_neg {w a : Nat} {i : Int} {ds : List D} (h : i < 0) : ¬ IsR w a (.tup (.int i :: ds)) := fun ⟨rs, e, _, h2⟩ => by
  cases rs with
  | nil => simp [natsD] at e
  | cons r rs =>
    simp only [natsD, List.map_cons, D.tup.injEq, List.cons.injEq, D.int.injEq] at e
    omega
theorem not_X_intT {w a : Nat} {i : Int} {ds : List D} : ¬ IsX w a (.tup (.int i :: ds)) := fun ⟨x, e, _⟩ => by
  cases x with
  | nil => simp [mdl] at e
  | cons r rs => simp [mdl, rowD] at e
theorem not_M_nil : ¬ IsM (.tup []) := fun ⟨m, e, v⟩ => by
  cases m with
  | nil => exact v.ne rfl
  | cons r m => simp [mdl] at e
theorem not_M_int {i : Int} : ¬ IsM (.int i) := fun ⟨m, e, _⟩ => by cases e
theorem not_M_non : ¬ IsM .non := fun ⟨m, e, _⟩ => by cases e
theorem not_M_1 {m : List (List Rat)} : ¬ IsM (mdl (m.take 1)) := fun ⟨m', e, v⟩ => by
  have := v.n2
  rw [← mdl_eq.mp e] at this
  simp at this
  omega
theorem not_L_nil {s : Nat} : ¬ IsL s (.tup []) := fun ⟨l, e, v⟩ => by
  have := v.n1
  cases l with
  | nil => simp at this
  | cons r m => simp [losD] at e
theorem not_L_int {s : Nat} {i : Int} : ¬ IsL s (.int i) := fun ⟨m, e, _⟩ => by cases e
theorem not_L_non {s : Nat} : ¬ IsL s .non := fun ⟨m, e, _⟩ => by cases e
theorem not_L_lst {s : Nat} {ds : List D} : ¬ IsL s (.lst ds) := fun ⟨m, e, _⟩ => by cases e
theorem pd_nil : Pd (.tup []) := by simp [Pd, Pb, Pbs]
theorem pd_non : Pd .non := by simp [Pd, Pb]
theorem pd_str {s : Str} : Pd (.str s) := by simp [Pd, Pb]
theorem pd_bl {b : Bool} : Pd (.bl b) := by simp [Pd, Pb]
theorem pd_int {i : Int} (h : i.natAbs ≤ 1000000) : Pd (.int i) := by
  simp only [Pd, Pb]
  exact bt_of h (Nat.lt_of_lt_of_le (show 1000000 < 2 ^ 20 by decide) (Nat.pow_le_pow_right (by decide) (by decide)))
theorem pd_1 : Pd (.int 1) := pd_int (by decide)
theorem pd_tup {ds : List D} (hl : ds.length ≤ 10000) (h : ∀ d ∈ ds, Pd d) : Pd (.tup ds) := by simp only [Pd, Pb]; exact ⟨hl, pbs_mem.mpr h⟩
theorem pd_lst {ds : List D} (hl : ds.length ≤ 10000) (h : ∀ d ∈ ds, Pd d) : Pd (.lst ds) := by simp only [Pd, Pb]; exact ⟨hl, pbs_mem.mpr h⟩
theorem pd_its {ds : List D} (h : Pd (.tup ds)) : ds.length ≤ 10000 ∧ ∀ d ∈ ds, Pd d := by simp only [Pd, Pb] at h; exact ⟨h.1, pbs_mem.mp h.2⟩
theorem mem_mid {α : Type} {l pre post : List α} {a : α} (e : l = pre ++ a :: post) : a ∈ l := by rw [e]; simp
end Mn
namespace Lb
open PySem Mn
theorem is_model_p {b : Nat} {S : Store} {d : D} (hd : Pd d) : d_is_model b [d] S = .ok (.bl (tv (IsM d))) S := is_model_c hd (by omega)
theorem require_model_e {b : Nat} {S : Store} {u : D} (hu : Pd u) : d_require_model b [u] S = ck (IsM u) 1 S (.ok .non S) := by
  refine run_val rfl ?_
  unfold b_require_model
  simp_arith only [is_model_p hu]
  by_cases h : IsM u
  · simp_arith only [tv_of h, ck_ok h]
  · simp_arith only [tv_no h, ck_no h]
theorem require_losses_e {b : Nat} {S : Store} {u v : D} (hu : Pd u) (hv : Pd v) : d_require_losses b [u, v] S = ck (IsM u) 1 S (ck (IsL (nl u) v) 2 S (.ok .non S)) := by
  refine run_val rfl ?_
  unfold b_require_losses
  simp_arith only [require_model_e hu]
  by_cases h : IsM u
  · obtain ⟨r0, rest, e, e1, _⟩ := h.w
    have e2 := are_valid_losses_c (b := S.length) (S := S) (.inl e) hv
    rw [List.length_cons, ← e1] at e2
    simp_arith only [tv_of h, ck_ok h, e2]
    by_cases h2 : IsL (nl u) v
    · simp_arith only [tv_of h2, ck_ok h2]
    · simp_arith only [tv_no h2, ck_no h2]
  · simp_arith only [tv_no h, ck_no h]
theorem require_rule_e {b : Nat} {S : Store} {u v r : D} (hu : Pd u) (hv : Pd v) (hr : Pd r) : d_require_rule b [u, v, r] S = ck (IsM u) 1 S (ck (IsL (nl u) v) 2 S (ck (IsR (nl (it0 u)) (nl v) r) 3 S (.ok .non S))) := by
  refine run_val rfl ?_
  unfold b_require_rule
  simp_arith only [require_losses_e hu hv]
  by_cases h : IsM u
  · by_cases h2 : IsL (nl u) v
    · obtain ⟨r0, rest, rfl, _, _, e1, _⟩ := h.w
      obtain ⟨ls, rfl, e2, _⟩ := h2.sq
      simp_arith only [tv_of h, tv_of h2, ck_ok h, ck_ok h2, is_valid_rule_c (v := .tup ls) (.inl rfl) hr, e1, e2]
      by_cases h3 : IsR r0.length ls.length r
      · simp_arith only [tv_of h3, ck_ok h3]
      · simp_arith only [tv_no h3, ck_no h3]
    · simp_arith only [tv_of h, tv_no h2, ck_ok h, ck_no h2]
  · simp_arith only [tv_no h, ck_no h]
theorem require_mixed_e {b : Nat} {S : Store} {u v r : D} (hu : Pd u) (hv : Pd v) (hr : Pd r) : d_require_mixed b [u, v, r] S = ck (IsM u) 1 S (ck (IsL (nl u) v) 2 S (ck (IsX (nl (it0 u)) (nl v) r) 4 S (.ok .non S))) := by
  refine run_val rfl ?_
  unfold b_require_mixed
  simp_arith only [require_losses_e hu hv]
  by_cases h : IsM u
  · by_cases h2 : IsL (nl u) v
    · obtain ⟨r0, rest, rfl, _, _, e1, _⟩ := h.w
      obtain ⟨ls, rfl, e2, e3, _⟩ := h2.sq
      simp_arith only [tv_of h, tv_of h2, ck_ok h, ck_ok h2, is_valid_mixed_c (v := .tup ls) (.inl rfl) hr (by omega) (by omega), e1, e2]
      by_cases h3 : IsX r0.length ls.length r
      · simp_arith only [tv_of h3, ck_ok h3]
      · simp_arith only [tv_no h3, ck_no h3]
    · simp_arith only [tv_of h, tv_no h2, ck_ok h, ck_no h2]
  · simp_arith only [tv_no h, ck_no h]
theorem are_losses_e {b : Nat} {S : Store} {u v : D} (hu : Pd u) (hv : Pd v) : d_are_losses b [u, v] S = ck (IsM u) 1 S (.ok (.bl (tv (IsL (nl u) v))) S) := by
  refine run_val rfl ?_
  unfold b_are_losses
  simp_arith only [require_model_e hu]
  by_cases h : IsM u
  · obtain ⟨r0, rest, e, e1, _⟩ := h.w
    have e2 := are_valid_losses_c (b := S.length) (S := S) (.inl e) hv
    rw [List.length_cons, ← e1] at e2
    simp_arith only [tv_of h, ck_ok h, e2]
    exact rfl
  · simp_arith only [tv_no h, ck_no h]
theorem is_rule_e {b : Nat} {S : Store} {u v r : D} (hu : Pd u) (hv : Pd v) (hr : Pd r) : d_is_rule b [u, v, r] S = ck (IsM u) 1 S (ck (IsL (nl u) v) 2 S (.ok (.bl (tv (IsR (nl (it0 u)) (nl v) r))) S)) := by
  refine run_val rfl ?_
  unfold b_is_rule
  simp_arith only [require_losses_e hu hv]
  by_cases h : IsM u
  · by_cases h2 : IsL (nl u) v
    · obtain ⟨r0, rest, rfl, _, _, e1, _⟩ := h.w
      obtain ⟨ls, rfl, e2, _⟩ := h2.sq
      simp_arith only [tv_of h, tv_of h2, ck_ok h, ck_ok h2, is_valid_rule_c (v := .tup ls) (.inl rfl) hr, e1, e2]
      exact rfl
    · simp_arith only [tv_of h, tv_no h2, ck_ok h, ck_no h2]
  · simp_arith only [tv_no h, ck_no h]
theorem is_mixed_e {b : Nat} {S : Store} {u v r : D} (hu : Pd u) (hv : Pd v) (hr : Pd r) : d_is_mixed b [u, v, r] S = ck (IsM u) 1 S (ck (IsL (nl u) v) 2 S (.ok (.bl (tv (IsX (nl (it0 u)) (nl v) r))) S)) := by
  refine run_val rfl ?_
  unfold b_is_mixed
  simp_arith only [require_losses_e hu hv]
  by_cases h : IsM u
  · by_cases h2 : IsL (nl u) v
    · obtain ⟨r0, rest, rfl, _, _, e1, _⟩ := h.w
      obtain ⟨ls, rfl, e2, e3, _⟩ := h2.sq
      simp_arith only [tv_of h, tv_of h2, ck_ok h, ck_ok h2, is_valid_mixed_c (v := .tup ls) (.inl rfl) hr (by omega) (by omega), e1, e2]
      exact rfl
    · simp_arith only [tv_of h, tv_no h2, ck_ok h, ck_no h2]
  · simp_arith only [tv_no h, ck_no h]
/-- a rule as it was recognized -/
def rlOf (d : D) : List Nat := match d with
  | .tup ds => ds.map fun e => match e with | .int i => i.toNat | _ => 0
  | _ => []
theorem rlOf_nats {rs : List Nat} : rlOf (natsD rs) = rs := by
  simp only [rlOf, natsD, List.map_map]
  conv => rhs; rw [← List.map_id rs]
  apply List.map_congr_left
  intro a _
  simp
theorem as_mixed_e {b : Nat} {S : Store} {u v r : D} (hu : Pd u) (hv : Pd v) (hr : Pd r) : d_as_mixed b [u, v, r] S = ck (IsM u) 1 S (ck (IsL (nl u) v) 2 S (ck (IsR (nl (it0 u)) (nl v) r) 3 S (.ok (mdl ((rlOf r).map (unit (nl v)))) S))) := by
  refine run_val rfl ?_
  unfold b_as_mixed
  simp_arith only [require_rule_e hu hv hr]
  by_cases h : IsM u
  · by_cases h2 : IsL (nl u) v
    · by_cases h3 : IsR (nl (it0 u)) (nl v) r
      · have h3' := h3
        obtain ⟨rs, rfl, e4, _⟩ := h3
        obtain ⟨r0, rest, rfl, _, _, e1, e5, _⟩ := h.w
        obtain ⟨ls, rfl, e2, e3, _⟩ := h2.sq
        simp_arith only [tv_of h, tv_of h2, tv_of h3', ck_ok h, ck_ok h2, ck_ok h3', rlOf_nats]
        rw [mixed_of_c (u := natsD rs) (rs := rs) (ds := ls) (.inl rfl) (.inl rfl) (by omega) (by omega), e2]
        simp_arith only
        exact mdl_pure
      · simp_arith only [tv_of h, tv_of h2, tv_no h3, ck_ok h, ck_ok h2, ck_no h3]
    · simp_arith only [tv_of h, tv_no h2, ck_ok h, ck_no h2]
  · simp_arith only [tv_no h, ck_no h]
end Lb

/-! Plain: the law's own comparison, what is caught. -/
local macro_rules
  | `(tactic| simp_arith only [$args,*]) => `(tactic| simp only [↓Mn.tcaseB_bl, ↓Mn.cps_ok, ↓Mn.cps_exc, ↓Mn.cps_stuck, ↓Mn.bind_is, ↓Mn.st_is, ↓Mn.only_is, ↓Mn.cps_cps, ↓Mn.bind_cps, ↓Mn.tcase_some, ↓Mn.cps_ite, ↓Mn.rdV_some, ↓Mn.ev_var, ↓Mn.ev_frz, ↓Mn.ev_cst, ↓Mn.ev_tup, ↓Mn.ev_lst, ↓Mn.ev_bin, ↓Mn.ev_neg, ↓Mn.ev_not, ↓Mn.ev_cmp, ↓Mn.ev_chain, ↓Mn.ev_ite, ↓Mn.ev_and, ↓Mn.ev_or, ↓Mn.ev_a1, ↓Mn.ev_r1, ↓Mn.ev_a2, ↓Mn.ev_r2, ↓Mn.ev_ix, ↓Mn.ev_sl, ↓Mn.ev_rev, ↓Mn.ev_call, ↓Mn.ev_bi, ↓Mn.ev_isi, ↓Mn.ev_bm, ↓Mn.ev_lc, ↓Mn.ev_nil, ↓Mn.ev_cons, ↓Mn.ev_o0, ↓Mn.ev_o1, ↓Mn.ev_iexp, ↓Mn.ev_irng1, ↓Mn.ev_irng2, ↓Mn.ev_ienum, ↓Mn.ev_izip, ↓Mn.tcase_bl, ↓Mn.tcase_int, ↓Mn.tcase_non, ↓Mn.tcase_tup, ↓Mn.tcase_lst, ↓Mn.tcase_scr, ↓Mn.bin_add_c, ↓Mn.bin_sub_c, ↓Mn.neg_int_c, ↓Mn.cmp_lt_c, ↓Mn.cmp_le_c, ↓Mn.cmp_gt_c, ↓Mn.cmp_ge_c, ↓Mn.cmp_eqi_c, ↓Mn.cmp_nei_c, ↓Mn.itr_tup_c, ↓Mn.itr_lst_c, ↓Mn.itr_scr_c, ↓Mn.len_seq_c, ↓Mn.len_lst_c, ↓Mn.len_scr_c, ↓Mn.bi_abs_c, ↓Mn.ofO_some_c, ↓Mn.newT_0_c, ↓Mn.newL_0_c, ↓Mn.newT_1_c, ↓Mn.newL_1_c, ↓Mn.newT_2_c, ↓Mn.newL_2_c, ↓Mn.newT_3_c, ↓Mn.newL_3_c, ↓Mn.newT_4_c, ↓Mn.newL_4_c, ↓Mn.newT_5_c, ↓Mn.newL_5_c, ↓Mn.newT_6_c, ↓Mn.newL_6_c, ↓Mn.newT_7_c, ↓Mn.newL_7_c, ↓Mn.newT_8_c, ↓Mn.newL_8_c, ↓Mn.newT_9_c, ↓Mn.newL_9_c, ↓Mn.isi_non_int_c, ↓Mn.isi_non_bool_c, ↓Mn.isi_non_str_c, ↓Mn.isi_non_tuple_c, ↓Mn.isi_non_list_c, ↓Mn.isi_bl_int_c, ↓Mn.isi_bl_bool_c, ↓Mn.isi_bl_str_c, ↓Mn.isi_bl_tuple_c, ↓Mn.isi_bl_list_c, ↓Mn.isi_int_int_c, ↓Mn.isi_int_bool_c, ↓Mn.isi_int_str_c, ↓Mn.isi_int_tuple_c, ↓Mn.isi_int_list_c, ↓Mn.isi_str_int_c, ↓Mn.isi_str_bool_c, ↓Mn.isi_str_str_c, ↓Mn.isi_str_tuple_c, ↓Mn.isi_str_list_c, ↓Mn.isi_tup_int_c, ↓Mn.isi_tup_bool_c, ↓Mn.isi_tup_str_c, ↓Mn.isi_tup_tuple_c, ↓Mn.isi_tup_list_c, ↓Mn.isi_lst_int_c, ↓Mn.isi_lst_bool_c, ↓Mn.isi_lst_str_c, ↓Mn.isi_lst_tuple_c, ↓Mn.isi_lst_list_c, ↓Mn.ix_t0_c, ↓Mn.ix_t1_c, ↓Mn.ix_l0_c, ↓Mn.ix_l1_c, ↓Mn.wp_nx, ↓Mn.wp_rt, ↓Mn.wp_exc, ↓Mn.wp_stuck, ↓Mn.wp_ite, ↓Mn.wpV_zero, ↓Mn.wpV_succ, ↓Mn.wpB_one, ↓Mn.wpB_2, ↓Mn.wpB_3, ↓Mn.wp_nil, ↓Mn.wp_cons, ↓Mn.wp_asg, ↓Mn.wp_put, ↓Mn.wp_asgT, ↓Mn.wp_tupS, ↓Mn.wp_ts0, ↓Mn.wp_tsV, ↓Mn.wp_tsS, ↓Mn.wp_par, ↓Mn.wp_expr, ↓Mn.wp_ret, ↓Mn.wp_if, ↓Mn.wp_for, ↓Mn.wp_while, ↓Mn.wp_rais, ↓Mn.wp_try, ↓Mn.hnd_cons, ↓Mn.enum_c, ↓Mn.enumL_c, ↓Mn.tuple_c, ↓Mn.tupleT_c, ↓Mn.fr_ix0, ↓Mn.fr_ix1, ↓Mn.eq_fr_c, ↓Mn.ne_fr_c, ↓Mn.ix_row, ↓Mn.len_row, ↓Mn.len_mdl, ↓Mn.len_los, ↓Mn.ix_mdl0, ↓Mn.isi_row_tuple, ↓Mn.cmp_is_c, ↓Mn.cmp_isnot_c, ↓Mn.cell_tup_c, ↓Mn.newL_nil_c, ↓Mn.slT_1, ↓Mn.slT_t1, ↓Mn.slT_t2, ↓Mn.slT_t4, ↓Mn.slT_l, ↓Mn.listT_c, ↓Mn.listL_c, ↓Mn.itr_rowD, ↓Mn.enum_rowD, ↓Mn.sl_rowD_1, ↓Mn.sl_rowD_t1, ↓Mn.sl_rowD_t2, ↓Mn.sl_rowD_t4, ↓Mn.sl_rowD_l, ↓Mn.list_rowD, ↓Mn.itr_mdl, ↓Mn.enum_mdl, ↓Mn.sl_mdl_1, ↓Mn.sl_mdl_t1, ↓Mn.sl_mdl_t2, ↓Mn.sl_mdl_t4, ↓Mn.sl_mdl_l, ↓Mn.list_mdl, ↓Mn.itr_losD, ↓Mn.enum_losD, ↓Mn.sl_losD_1, ↓Mn.sl_losD_t1, ↓Mn.sl_losD_t2, ↓Mn.sl_losD_t4, ↓Mn.sl_losD_l, ↓Mn.list_losD, ↓Mn.itr_intsD, ↓Mn.enum_intsD, ↓Mn.sl_intsD_1, ↓Mn.sl_intsD_t1, ↓Mn.sl_intsD_t2, ↓Mn.sl_intsD_t4, ↓Mn.sl_intsD_l, ↓Mn.list_intsD, ↓Mn.len_intsD, ↓Mn.itr_natsD, ↓Mn.enum_natsD, ↓Mn.sl_natsD_1, ↓Mn.sl_natsD_t1, ↓Mn.sl_natsD_t2, ↓Mn.sl_natsD_t4, ↓Mn.sl_natsD_l, ↓Mn.list_natsD, ↓Mn.len_natsD, ↓Mn.nebl_c, ↓Mn.nes_InvalidModel, ↓Mn.eqs_InvalidModel, ↓Mn.nes_InvalidLosses, ↓Mn.eqs_InvalidLosses, ↓Mn.nes_InvalidRule, ↓Mn.eqs_InvalidRule, ↓Mn.nes_InvalidMixed, ↓Mn.eqs_InvalidMixed, ↓Mn.nes_InvalidBelief, ↓Mn.eqs_InvalidBelief, ↓Mn.nes_InvalidObservation, ↓Mn.eqs_InvalidObservation, ↓Mn.nes_InvalidGrouping, ↓Mn.eqs_InvalidGrouping, ↓Mn.nes_NotSufficient, ↓Mn.eqs_NotSufficient, ↓Mn.nes_InvalidNumbers, ↓Mn.eqs_InvalidNumbers, ↓Mn.nes_InvalidEstimate, ↓Mn.eqs_InvalidEstimate, ↓Mn.nes_InvalidState, ↓Mn.eqs_InvalidState, ↓Mn.nes_ZeroChance, ↓Mn.eqs_ZeroChance, ↓Mn.nes_NoEstimate, ↓Mn.eqs_NoEstimate, ↓Mn.nes_UnlikeStates, ↓Mn.eqs_UnlikeStates, ↓Mn.nes_TooLarge, ↓Mn.eqs_TooLarge, ↓Mn.nes_InvalidTable, ↓Mn.eqs_InvalidTable, ↓Mn.nes_Impossible, ↓Mn.eqs_Impossible, ↓Mn.nes_NothingToUndo, ↓Mn.eqs_NothingToUndo, ↓Mn.nes_ParseError, ↓Mn.eqs_ParseError, ↓Mn.ck_c, Mn.truD_bl, Mn.truD_int, Mn.truD_non, Mn.truD_tup, Mn.truD_lst, Mn.truD_scr, Mn.tru1_bl, Mn.tru1_int, Mn.shaped_int, Mn.eqv_int, Mn.sq_tup, Mn.sq_lst, Mn.sq_scr, Mn.lst_lst, Mn.at_0, Mn.at_1, Mn.take_self, Mn.take_app, Mn.isNon_non, Mn.isNon_bl, Mn.isNon_int, Mn.isNon_str, Mn.isNon_tup, Mn.isNon_lst, Mn.isNon_fr, Mn.isNon_row, Mn.isNon_mdl, Mn.cell_at, Mn.cell_lst, Mn.intO_n, Mn.intO_i, Mn.isSome_s, Mn.isNon_intsD, Mn.isNon_natsD, Mn.nl_mdl, Mn.nl_row, Mn.nl_los, Mn.nl_ints, Mn.wd_mdl, List.getElem?_cons_zero, List.getElem?_cons_succ, ↓reduceIte, List.map_cons, List.map_nil, List.replicate, List.append, List.cons_append, List.nil_append, List.length_cons, List.length_nil, Nat.reduceSub, Nat.reduceAdd, Nat.sub_self, Bool.false_eq_true, Bool.not_true, Bool.not_false, decide_true, decide_false, List.length_map, bne_self_eq_false, and_true, true_and, and_self, $args,*])
  | `(tactic| simp_arith only) => `(tactic| simp only [↓Mn.tcaseB_bl, ↓Mn.cps_ok, ↓Mn.cps_exc, ↓Mn.cps_stuck, ↓Mn.bind_is, ↓Mn.st_is, ↓Mn.only_is, ↓Mn.cps_cps, ↓Mn.bind_cps, ↓Mn.tcase_some, ↓Mn.cps_ite, ↓Mn.rdV_some, ↓Mn.ev_var, ↓Mn.ev_frz, ↓Mn.ev_cst, ↓Mn.ev_tup, ↓Mn.ev_lst, ↓Mn.ev_bin, ↓Mn.ev_neg, ↓Mn.ev_not, ↓Mn.ev_cmp, ↓Mn.ev_chain, ↓Mn.ev_ite, ↓Mn.ev_and, ↓Mn.ev_or, ↓Mn.ev_a1, ↓Mn.ev_r1, ↓Mn.ev_a2, ↓Mn.ev_r2, ↓Mn.ev_ix, ↓Mn.ev_sl, ↓Mn.ev_rev, ↓Mn.ev_call, ↓Mn.ev_bi, ↓Mn.ev_isi, ↓Mn.ev_bm, ↓Mn.ev_lc, ↓Mn.ev_nil, ↓Mn.ev_cons, ↓Mn.ev_o0, ↓Mn.ev_o1, ↓Mn.ev_iexp, ↓Mn.ev_irng1, ↓Mn.ev_irng2, ↓Mn.ev_ienum, ↓Mn.ev_izip, ↓Mn.tcase_bl, ↓Mn.tcase_int, ↓Mn.tcase_non, ↓Mn.tcase_tup, ↓Mn.tcase_lst, ↓Mn.tcase_scr, ↓Mn.bin_add_c, ↓Mn.bin_sub_c, ↓Mn.neg_int_c, ↓Mn.cmp_lt_c, ↓Mn.cmp_le_c, ↓Mn.cmp_gt_c, ↓Mn.cmp_ge_c, ↓Mn.cmp_eqi_c, ↓Mn.cmp_nei_c, ↓Mn.itr_tup_c, ↓Mn.itr_lst_c, ↓Mn.itr_scr_c, ↓Mn.len_seq_c, ↓Mn.len_lst_c, ↓Mn.len_scr_c, ↓Mn.bi_abs_c, ↓Mn.ofO_some_c, ↓Mn.newT_0_c, ↓Mn.newL_0_c, ↓Mn.newT_1_c, ↓Mn.newL_1_c, ↓Mn.newT_2_c, ↓Mn.newL_2_c, ↓Mn.newT_3_c, ↓Mn.newL_3_c, ↓Mn.newT_4_c, ↓Mn.newL_4_c, ↓Mn.newT_5_c, ↓Mn.newL_5_c, ↓Mn.newT_6_c, ↓Mn.newL_6_c, ↓Mn.newT_7_c, ↓Mn.newL_7_c, ↓Mn.newT_8_c, ↓Mn.newL_8_c, ↓Mn.newT_9_c, ↓Mn.newL_9_c, ↓Mn.isi_non_int_c, ↓Mn.isi_non_bool_c, ↓Mn.isi_non_str_c, ↓Mn.isi_non_tuple_c, ↓Mn.isi_non_list_c, ↓Mn.isi_bl_int_c, ↓Mn.isi_bl_bool_c, ↓Mn.isi_bl_str_c, ↓Mn.isi_bl_tuple_c, ↓Mn.isi_bl_list_c, ↓Mn.isi_int_int_c, ↓Mn.isi_int_bool_c, ↓Mn.isi_int_str_c, ↓Mn.isi_int_tuple_c, ↓Mn.isi_int_list_c, ↓Mn.isi_str_int_c, ↓Mn.isi_str_bool_c, ↓Mn.isi_str_str_c, ↓Mn.isi_str_tuple_c, ↓Mn.isi_str_list_c, ↓Mn.isi_tup_int_c, ↓Mn.isi_tup_bool_c, ↓Mn.isi_tup_str_c, ↓Mn.isi_tup_tuple_c, ↓Mn.isi_tup_list_c, ↓Mn.isi_lst_int_c, ↓Mn.isi_lst_bool_c, ↓Mn.isi_lst_str_c, ↓Mn.isi_lst_tuple_c, ↓Mn.isi_lst_list_c, ↓Mn.ix_t0_c, ↓Mn.ix_t1_c, ↓Mn.ix_l0_c, ↓Mn.ix_l1_c, ↓Mn.wp_nx, ↓Mn.wp_rt, ↓Mn.wp_exc, ↓Mn.wp_stuck, ↓Mn.wp_ite, ↓Mn.wpV_zero, ↓Mn.wpV_succ, ↓Mn.wpB_one, ↓Mn.wpB_2, ↓Mn.wpB_3, ↓Mn.wp_nil, ↓Mn.wp_cons, ↓Mn.wp_asg, ↓Mn.wp_put, ↓Mn.wp_asgT, ↓Mn.wp_tupS, ↓Mn.wp_ts0, ↓Mn.wp_tsV, ↓Mn.wp_tsS, ↓Mn.wp_par, ↓Mn.wp_expr, ↓Mn.wp_ret, ↓Mn.wp_if, ↓Mn.wp_for, ↓Mn.wp_while, ↓Mn.wp_rais, ↓Mn.wp_try, ↓Mn.hnd_cons, ↓Mn.enum_c, ↓Mn.enumL_c, ↓Mn.tuple_c, ↓Mn.tupleT_c, ↓Mn.fr_ix0, ↓Mn.fr_ix1, ↓Mn.eq_fr_c, ↓Mn.ne_fr_c, ↓Mn.ix_row, ↓Mn.len_row, ↓Mn.len_mdl, ↓Mn.len_los, ↓Mn.ix_mdl0, ↓Mn.isi_row_tuple, ↓Mn.cmp_is_c, ↓Mn.cmp_isnot_c, ↓Mn.cell_tup_c, ↓Mn.newL_nil_c, ↓Mn.slT_1, ↓Mn.slT_t1, ↓Mn.slT_t2, ↓Mn.slT_t4, ↓Mn.slT_l, ↓Mn.listT_c, ↓Mn.listL_c, ↓Mn.itr_rowD, ↓Mn.enum_rowD, ↓Mn.sl_rowD_1, ↓Mn.sl_rowD_t1, ↓Mn.sl_rowD_t2, ↓Mn.sl_rowD_t4, ↓Mn.sl_rowD_l, ↓Mn.list_rowD, ↓Mn.itr_mdl, ↓Mn.enum_mdl, ↓Mn.sl_mdl_1, ↓Mn.sl_mdl_t1, ↓Mn.sl_mdl_t2, ↓Mn.sl_mdl_t4, ↓Mn.sl_mdl_l, ↓Mn.list_mdl, ↓Mn.itr_losD, ↓Mn.enum_losD, ↓Mn.sl_losD_1, ↓Mn.sl_losD_t1, ↓Mn.sl_losD_t2, ↓Mn.sl_losD_t4, ↓Mn.sl_losD_l, ↓Mn.list_losD, ↓Mn.itr_intsD, ↓Mn.enum_intsD, ↓Mn.sl_intsD_1, ↓Mn.sl_intsD_t1, ↓Mn.sl_intsD_t2, ↓Mn.sl_intsD_t4, ↓Mn.sl_intsD_l, ↓Mn.list_intsD, ↓Mn.len_intsD, ↓Mn.itr_natsD, ↓Mn.enum_natsD, ↓Mn.sl_natsD_1, ↓Mn.sl_natsD_t1, ↓Mn.sl_natsD_t2, ↓Mn.sl_natsD_t4, ↓Mn.sl_natsD_l, ↓Mn.list_natsD, ↓Mn.len_natsD, ↓Mn.nebl_c, ↓Mn.nes_InvalidModel, ↓Mn.eqs_InvalidModel, ↓Mn.nes_InvalidLosses, ↓Mn.eqs_InvalidLosses, ↓Mn.nes_InvalidRule, ↓Mn.eqs_InvalidRule, ↓Mn.nes_InvalidMixed, ↓Mn.eqs_InvalidMixed, ↓Mn.nes_InvalidBelief, ↓Mn.eqs_InvalidBelief, ↓Mn.nes_InvalidObservation, ↓Mn.eqs_InvalidObservation, ↓Mn.nes_InvalidGrouping, ↓Mn.eqs_InvalidGrouping, ↓Mn.nes_NotSufficient, ↓Mn.eqs_NotSufficient, ↓Mn.nes_InvalidNumbers, ↓Mn.eqs_InvalidNumbers, ↓Mn.nes_InvalidEstimate, ↓Mn.eqs_InvalidEstimate, ↓Mn.nes_InvalidState, ↓Mn.eqs_InvalidState, ↓Mn.nes_ZeroChance, ↓Mn.eqs_ZeroChance, ↓Mn.nes_NoEstimate, ↓Mn.eqs_NoEstimate, ↓Mn.nes_UnlikeStates, ↓Mn.eqs_UnlikeStates, ↓Mn.nes_TooLarge, ↓Mn.eqs_TooLarge, ↓Mn.nes_InvalidTable, ↓Mn.eqs_InvalidTable, ↓Mn.nes_Impossible, ↓Mn.eqs_Impossible, ↓Mn.nes_NothingToUndo, ↓Mn.eqs_NothingToUndo, ↓Mn.nes_ParseError, ↓Mn.eqs_ParseError, ↓Mn.ck_c, Mn.truD_bl, Mn.truD_int, Mn.truD_non, Mn.truD_tup, Mn.truD_lst, Mn.truD_scr, Mn.tru1_bl, Mn.tru1_int, Mn.shaped_int, Mn.eqv_int, Mn.sq_tup, Mn.sq_lst, Mn.sq_scr, Mn.lst_lst, Mn.at_0, Mn.at_1, Mn.take_self, Mn.take_app, Mn.isNon_non, Mn.isNon_bl, Mn.isNon_int, Mn.isNon_str, Mn.isNon_tup, Mn.isNon_lst, Mn.isNon_fr, Mn.isNon_row, Mn.isNon_mdl, Mn.cell_at, Mn.cell_lst, Mn.intO_n, Mn.intO_i, Mn.isSome_s, Mn.isNon_intsD, Mn.isNon_natsD, Mn.nl_mdl, Mn.nl_row, Mn.nl_los, Mn.nl_ints, Mn.wd_mdl, List.getElem?_cons_zero, List.getElem?_cons_succ, ↓reduceIte, List.map_cons, List.map_nil, List.replicate, List.append, List.cons_append, List.nil_append, List.length_cons, List.length_nil, Nat.reduceSub, Nat.reduceAdd, Nat.sub_self, Bool.false_eq_true, Bool.not_true, Bool.not_false, decide_true, decide_false, List.length_map, bne_self_eq_false, and_true, true_and, and_self])
namespace Mn
open PySem
/-- data without booleans, lists and cells -/
def sdt : Nat → D → Bool
  | _, .int _ => true
  | _, .non => true
  | _, .str s => PyData.canLay0 (.str s)
  | n + 1, .tup ds => ds.all (sdt n)
  | _, _ => false
theorem sdt_sd : ∀ {n : Nat} {d : D}, sdt n d = true → sd n d = true
  | 0, .int _, _ => rfl
  | _ + 1, .int _, _ => rfl
  | 0, .non, _ => rfl
  | _ + 1, .non, _ => rfl
  | 0, .str s, h => h
  | _ + 1, .str s, h => h
  | 0, .tup _, h => by simp [sdt] at h
  | n + 1, .tup ds, h => by
    simp only [sdt, sd, List.all_eq_true] at h ⊢
    exact fun d hd => sdt_sd (h d hd)
  | 0, .lst _, h => by simp [sdt] at h
  | _ + 1, .lst _, h => by simp [sdt] at h
  | 0, .bl _, h => by simp [sdt] at h
  | _ + 1, .bl _, h => by simp [sdt] at h
  | 0, .ref _, h => by simp [sdt] at h
  | _ + 1, .ref _, h => by simp [sdt] at h
  | 0, .scr _, h => by simp [sdt] at h
  | _ + 1, .scr _, h => by simp [sdt] at h
theorem zip_all_eq {α : Type} : ∀ {xs ys : List α}, xs.length = ys.length → ((∀ p ∈ xs.zip ys, p.1 = p.2) ↔ xs = ys)
  | [], [], _ => by simp
  | [], _ :: _, h => by simp at h
  | _ :: _, [], h => by simp at h
  | a :: r, b :: s, h => by
    simp only [List.length_cons, Nat.add_right_cancel_iff] at h
    simp only [List.zip_cons_cons, List.forall_mem_cons, zip_all_eq h, List.cons.injEq]
/-- what is caught -/
def orv (hs : List (Str × Nat × Str)) (r : Res D) : Res D := match r with
  | .ok d S => .ok d S
  | .exc c S => match hs.find? (fun h : Str × Nat × Str => h.2.1 == c) with
    | some h => .ok (.str h.2.2) S
    | none => .stuck
  | .stuck => .stuck
theorem orv_exc {hs : List (Str × Nat × Str)} {c : Nat} {S : Store} : orv hs (.exc c S) = match hs.find? (fun h : Str × Nat × Str => h.2.1 == c) with
    | some h => .ok (.str h.2.2) S
    | none => .stuck := rfl
@[simp] theorem orv_ok {hs : List (Str × Nat × Str)} {d : D} {S : Store} : orv hs (.ok d S) = .ok d S := rfl
theorem orv_ck {hs : List (Str × Nat × Str)} {P : Prop} {c : Nat} {S : Store} {r : Res D} : orv hs (ck P c S r) = if tv P = true then orv hs r else orv hs (.exc c S) := by
  unfold ck
  split <;> rfl
theorem orv_ex {n v : Str} {i c : Nat} {hs : List (Str × Nat × Str)} {S : Store} : orv ((n, i, v) :: hs) (.exc c S) = if (i == c) = true then .ok (.str v) S else orv hs (.exc c S) := by
  rw [orv_exc, orv_exc, List.find?_cons]
  cases h : (i == c) <;> simp
/-- a call whose exceptions are told -/
theorem or_gen {n : Nat} {nm : Str} {g : FnSem} {es : MEs} {hs : List (Str × Nat × Str)} {b : Nat} {args : List D} {S : Store} {r v : Res D} (hl : args.length = n) (he : evEs S.length es (args.map some) S = .ok args S) (hg : g S.length args S = r) (hr : r.cps (fun d S' => D.pure d = true ∧ S' = S) (fun _ S' => S' = S) False) (hv : orv hs r = v) (hv2 : v ≠ .stuck) :
    run false n n (.cons (.tryc (.cons (.ret (.call nm g es)) .nil) hs) .nil) b args S = v := by
  refine run_val hl ?_
  rw [Nat.sub_self]
  simp only [List.replicate, List.append_nil, ↓Mn.tcaseB_bl, ↓Mn.cps_ok, ↓Mn.cps_exc, ↓Mn.cps_stuck, ↓Mn.bind_is, ↓Mn.st_is, ↓Mn.only_is, ↓Mn.cps_cps, ↓Mn.bind_cps, ↓Mn.tcase_some, ↓Mn.cps_ite, ↓Mn.rdV_some, ↓Mn.ev_var, ↓Mn.ev_frz, ↓Mn.ev_cst, ↓Mn.ev_tup, ↓Mn.ev_lst, ↓Mn.ev_bin, ↓Mn.ev_neg, ↓Mn.ev_not, ↓Mn.ev_cmp, ↓Mn.ev_chain, ↓Mn.ev_ite, ↓Mn.ev_and, ↓Mn.ev_or, ↓Mn.ev_a1, ↓Mn.ev_r1, ↓Mn.ev_a2, ↓Mn.ev_r2, ↓Mn.ev_ix, ↓Mn.ev_sl, ↓Mn.ev_rev, ↓Mn.ev_call, ↓Mn.ev_bi, ↓Mn.ev_isi, ↓Mn.ev_bm, ↓Mn.ev_lc, ↓Mn.ev_nil, ↓Mn.ev_cons, ↓Mn.ev_o0, ↓Mn.ev_o1, ↓Mn.ev_iexp, ↓Mn.ev_irng1, ↓Mn.ev_irng2, ↓Mn.ev_ienum, ↓Mn.ev_izip, ↓Mn.tcase_bl, ↓Mn.tcase_int, ↓Mn.tcase_non, ↓Mn.tcase_tup, ↓Mn.tcase_lst, ↓Mn.tcase_scr, ↓Mn.bin_add_c, ↓Mn.bin_sub_c, ↓Mn.neg_int_c, ↓Mn.cmp_lt_c, ↓Mn.cmp_le_c, ↓Mn.cmp_gt_c, ↓Mn.cmp_ge_c, ↓Mn.cmp_eqi_c, ↓Mn.cmp_nei_c, ↓Mn.itr_tup_c, ↓Mn.itr_lst_c, ↓Mn.itr_scr_c, ↓Mn.len_seq_c, ↓Mn.len_lst_c, ↓Mn.len_scr_c, ↓Mn.bi_abs_c, ↓Mn.ofO_some_c, ↓Mn.newT_0_c, ↓Mn.newL_0_c, ↓Mn.newT_1_c, ↓Mn.newL_1_c, ↓Mn.newT_2_c, ↓Mn.newL_2_c, ↓Mn.newT_3_c, ↓Mn.newL_3_c, ↓Mn.newT_4_c, ↓Mn.newL_4_c, ↓Mn.newT_5_c, ↓Mn.newL_5_c, ↓Mn.newT_6_c, ↓Mn.newL_6_c, ↓Mn.newT_7_c, ↓Mn.newL_7_c, ↓Mn.newT_8_c, ↓Mn.newL_8_c, ↓Mn.newT_9_c, ↓Mn.newL_9_c, ↓Mn.isi_non_int_c, ↓Mn.isi_non_bool_c, ↓Mn.isi_non_str_c, ↓Mn.isi_non_tuple_c, ↓Mn.isi_non_list_c, ↓Mn.isi_bl_int_c, ↓Mn.isi_bl_bool_c, ↓Mn.isi_bl_str_c, ↓Mn.isi_bl_tuple_c, ↓Mn.isi_bl_list_c, ↓Mn.isi_int_int_c, ↓Mn.isi_int_bool_c, ↓Mn.isi_int_str_c, ↓Mn.isi_int_tuple_c, ↓Mn.isi_int_list_c, ↓Mn.isi_str_int_c, ↓Mn.isi_str_bool_c, ↓Mn.isi_str_str_c, ↓Mn.isi_str_tuple_c, ↓Mn.isi_str_list_c, ↓Mn.isi_tup_int_c, ↓Mn.isi_tup_bool_c, ↓Mn.isi_tup_str_c, ↓Mn.isi_tup_tuple_c, ↓Mn.isi_tup_list_c, ↓Mn.isi_lst_int_c, ↓Mn.isi_lst_bool_c, ↓Mn.isi_lst_str_c, ↓Mn.isi_lst_tuple_c, ↓Mn.isi_lst_list_c, ↓Mn.ix_t0_c, ↓Mn.ix_t1_c, ↓Mn.ix_l0_c, ↓Mn.ix_l1_c, ↓Mn.wp_nx, ↓Mn.wp_rt, ↓Mn.wp_exc, ↓Mn.wp_stuck, ↓Mn.wp_ite, ↓Mn.wpV_zero, ↓Mn.wpV_succ, ↓Mn.wpB_one, ↓Mn.wpB_2, ↓Mn.wpB_3, ↓Mn.wp_nil, ↓Mn.wp_cons, ↓Mn.wp_asg, ↓Mn.wp_put, ↓Mn.wp_asgT, ↓Mn.wp_tupS, ↓Mn.wp_ts0, ↓Mn.wp_tsV, ↓Mn.wp_tsS, ↓Mn.wp_par, ↓Mn.wp_expr, ↓Mn.wp_ret, ↓Mn.wp_if, ↓Mn.wp_for, ↓Mn.wp_while, ↓Mn.wp_rais, ↓Mn.wp_try, ↓Mn.hnd_cons, ↓Mn.enum_c, ↓Mn.enumL_c, ↓Mn.tuple_c, ↓Mn.tupleT_c, ↓Mn.fr_ix0, ↓Mn.fr_ix1, ↓Mn.eq_fr_c, ↓Mn.ne_fr_c, ↓Mn.ix_row, ↓Mn.len_row, ↓Mn.len_mdl, ↓Mn.len_los, ↓Mn.ix_mdl0, ↓Mn.isi_row_tuple, ↓Mn.cmp_is_c, ↓Mn.cmp_isnot_c, ↓Mn.cell_tup_c, ↓Mn.newL_nil_c, ↓Mn.slT_1, ↓Mn.slT_t1, ↓Mn.slT_t2, ↓Mn.slT_t4, ↓Mn.slT_l, ↓Mn.listT_c, ↓Mn.listL_c, ↓Mn.itr_rowD, ↓Mn.enum_rowD, ↓Mn.sl_rowD_1, ↓Mn.sl_rowD_t1, ↓Mn.sl_rowD_t2, ↓Mn.sl_rowD_t4, ↓Mn.sl_rowD_l, ↓Mn.list_rowD, ↓Mn.itr_mdl, ↓Mn.enum_mdl, ↓Mn.sl_mdl_1, ↓Mn.sl_mdl_t1, ↓Mn.sl_mdl_t2, ↓Mn.sl_mdl_t4, ↓Mn.sl_mdl_l, ↓Mn.list_mdl, ↓Mn.itr_losD, ↓Mn.enum_losD, ↓Mn.sl_losD_1, ↓Mn.sl_losD_t1, ↓Mn.sl_losD_t2, ↓Mn.sl_losD_t4, ↓Mn.sl_losD_l, ↓Mn.list_losD, ↓Mn.itr_intsD, ↓Mn.enum_intsD, ↓Mn.sl_intsD_1, ↓Mn.sl_intsD_t1, ↓Mn.sl_intsD_t2, ↓Mn.sl_intsD_t4, ↓Mn.sl_intsD_l, ↓Mn.list_intsD, ↓Mn.len_intsD, ↓Mn.itr_natsD, ↓Mn.enum_natsD, ↓Mn.sl_natsD_1, ↓Mn.sl_natsD_t1, ↓Mn.sl_natsD_t2, ↓Mn.sl_natsD_t4, ↓Mn.sl_natsD_l, ↓Mn.list_natsD, ↓Mn.len_natsD, ↓Mn.nebl_c, ↓Mn.nes_InvalidModel, ↓Mn.eqs_InvalidModel, ↓Mn.nes_InvalidLosses, ↓Mn.eqs_InvalidLosses, ↓Mn.nes_InvalidRule, ↓Mn.eqs_InvalidRule, ↓Mn.nes_InvalidMixed, ↓Mn.eqs_InvalidMixed, ↓Mn.nes_InvalidBelief, ↓Mn.eqs_InvalidBelief, ↓Mn.nes_InvalidObservation, ↓Mn.eqs_InvalidObservation, ↓Mn.nes_InvalidGrouping, ↓Mn.eqs_InvalidGrouping, ↓Mn.nes_NotSufficient, ↓Mn.eqs_NotSufficient, ↓Mn.nes_InvalidNumbers, ↓Mn.eqs_InvalidNumbers, ↓Mn.nes_InvalidEstimate, ↓Mn.eqs_InvalidEstimate, ↓Mn.nes_InvalidState, ↓Mn.eqs_InvalidState, ↓Mn.nes_ZeroChance, ↓Mn.eqs_ZeroChance, ↓Mn.nes_NoEstimate, ↓Mn.eqs_NoEstimate, ↓Mn.nes_UnlikeStates, ↓Mn.eqs_UnlikeStates, ↓Mn.nes_TooLarge, ↓Mn.eqs_TooLarge, ↓Mn.nes_InvalidTable, ↓Mn.eqs_InvalidTable, ↓Mn.nes_Impossible, ↓Mn.eqs_Impossible, ↓Mn.nes_NothingToUndo, ↓Mn.eqs_NothingToUndo, ↓Mn.nes_ParseError, ↓Mn.eqs_ParseError, ↓Mn.ck_c, Mn.truD_bl, Mn.truD_int, Mn.truD_non, Mn.truD_tup, Mn.truD_lst, Mn.truD_scr, Mn.tru1_bl, Mn.tru1_int, Mn.shaped_int, Mn.eqv_int, Mn.sq_tup, Mn.sq_lst, Mn.sq_scr, Mn.lst_lst, Mn.at_0, Mn.at_1, Mn.take_self, Mn.take_app, Mn.isNon_non, Mn.isNon_bl, Mn.isNon_int, Mn.isNon_str, Mn.isNon_tup, Mn.isNon_lst, Mn.isNon_fr, Mn.isNon_row, Mn.isNon_mdl, Mn.cell_at, Mn.cell_lst, Mn.intO_n, Mn.intO_i, Mn.isSome_s, Mn.isNon_intsD, Mn.isNon_natsD, Mn.nl_mdl, Mn.nl_row, Mn.nl_los, Mn.nl_ints, Mn.wd_mdl, List.getElem?_cons_zero, List.getElem?_cons_succ, ↓reduceIte, List.map_cons, List.map_nil, List.replicate, List.append, List.cons_append, List.nil_append, List.length_cons, List.length_nil, Nat.reduceSub, Nat.reduceAdd, Nat.sub_self, Bool.false_eq_true, Bool.not_true, Bool.not_false, decide_true, decide_false, List.length_map, bne_self_eq_false, and_true, true_and, and_self]
  rw [he, cps_ok, hg]
  subst hv
  clear hg he
  cases r with
  | ok d S' =>
    rw [cps_ok] at hr ⊢
    rw [hr.2]
    exact ⟨hr.1, rfl, take_self⟩
  | exc c S' =>
    rw [cps_exc] at hr ⊢
    subst hr
    unfold hnd
    rw [orv_exc] at hv2 ⊢
    cases e : hs.find? (fun h : Str × Nat × Str => h.2.1 == c) with
    | some h => rw [e] at hv2; exact ⟨rfl, rfl, take_self⟩
    | none => rw [e] at hv2; exact (hv2 rfl).elim
  | stuck => exact (hv2 rfl).elim
theorem ne_str {s : Str} (h : PyData.canLay0 (.str s) = true) {S : Store} : cmpD .ne (.str s) (.str s) S = .ok (.bl false) S := by
  rw [cmp_ne_sd (n := 0) (x := .str s) (y := .str s) h h (by decide), tv_no (fun h => h rfl)]
theorem eq_str {s : Str} (h : PyData.canLay0 (.str s) = true) {S : Store} : cmpD .eq (.str s) (.str s) S = .ok (.bl true) S := by
  rw [cmp_eq_sd (n := 0) (x := .str s) (y := .str s) h h (by decide), tv_of rfl]
theorem sdt_fr {n : Nat} {q : Rat} : sdt (n + 1) (fr q) = true := by cases n <;> rfl
theorem sdt_row {n : Nat} {l : List Rat} : sdt (n + 2) (rowD l) = true := by
  simp only [rowD, sdt, List.all_eq_true]
  intro d hd
  obtain ⟨q, _, rfl⟩ := List.mem_map.mp hd
  exact sdt_fr
theorem sdt_mdl {n : Nat} {l : List (List Rat)} : sdt (n + 3) (mdl l) = true := by
  simp only [mdl, sdt, List.all_eq_true]
  intro d hd
  obtain ⟨q, _, rfl⟩ := List.mem_map.mp hd
  exact sdt_row
theorem tuple_nats {β : Type} {m : Bool} {rs : List Nat} {S : Store} {k : D → Store → β} {x : Nat → Store → β} {z : β} : (biD m .tuple [.lst (rs.map fun w : Nat => D.int (w : Nat))] S).cps k x z = k (natsD rs) S := tuple_c
theorem tuple_rows {β : Type} {m : Bool} {rs : List (List Rat)} {S : Store} {k : D → Store → β} {x : Nat → Store → β} {z : β} : (biD m .tuple [.lst (rs.map rowD)] S).cps k x z = k (mdl rs) S := tuple_c
theorem tuple_frs {β : Type} {m : Bool} {rs : List Rat} {S : Store} {k : D → Store → β} {x : Nat → Store → β} {z : β} : (biD m .tuple [.lst (rs.map fr)] S).cps k x z = k (rowD rs) S := tuple_c
theorem len_los_e {m : Bool} {l : List (List Int)} {S : Store} : biD m .len [losD l] S = .ok (.int (l.length : Nat)) S := by
  show Res.ok (D.int ((l.map intsD).length : Nat)) S = _
  rw [List.length_map]
theorem len_mdl_e {m : Bool} {l : List (List Rat)} {S : Store} : biD m .len [mdl l] S = .ok (.int (l.length : Nat)) S := by
  show Res.ok (D.int ((l.map rowD).length : Nat)) S = _
  rw [List.length_map]
theorem len_row_e {m : Bool} {l : List Rat} {S : Store} : biD m .len [rowD l] S = .ok (.int (l.length : Nat)) S := by
  show Res.ok (D.int ((l.map fr).length : Nat)) S = _
  rw [List.length_map]
end Mn
namespace Lb
open PySem Mn
theorem law_same_c {n j : Nat} (hj : j ≤ 64) : ∀ (k : Nat) {b : Nat} {S : Store} {got due : D}, k ≤ j → sdt k due = true → sd j got = true → Pb n got → Pb n due → d__law_same (k + 1) b [got, due] S = .ok (.bl (tv (got = due))) S
  | k, b, S, got, due, hk, hdu, hgo, pg, pd => by
    have key : ∀ {x : D}, sd j x = true → cmpD .eq x due S = .ok (.bl (tv (x = due))) S := fun h => cmp_eq_sd h (sd_mono hk (sdt_sd hdu)) hj
    have ki : ∀ {i j : Int}, D.bl (decide (i = j)) = D.bl (tv (D.int i = D.int j)) := fun {i j} => by rw [tv_eq (b := decide (i = j))]; simp
    have no : ∀ {p : Prop}, got ≠ due → (D.bl false = D.bl (tv (got = due))) := fun h => by rw [tv_no h]
    refine run_eq rfl rfl ?_
    unfold b__law_same
    cases due with
    | non =>
      simp_arith only
      cases got <;> first | (simp [sd] at hgo; done) | (simp_arith only; first | exact congrArg D.bl (tv_of trivial).symm | exact congrArg D.bl (tv_of rfl).symm | exact no (p := True) (by simp))
    | int i =>
      simp_arith only
      cases got <;> first | (simp [sd] at hgo; done) | (simp_arith only; first | exact no (p := True) (by simp) | exact ki | (rw [key hgo, cps_ok]; exact ⟨rfl, take_self⟩))
    | str s =>
      simp_arith only
      cases got <;> first | (simp [sd] at hgo; done) | (simp_arith only; first | exact no (p := True) (by simp) | exact ki | (rw [key hgo, cps_ok]; exact ⟨rfl, take_self⟩))
    | tup ds =>
      simp_arith only
      cases got with
      | tup gs =>
        simp only [Pb] at pg pd
        simp_arith only
        by_cases hl : gs.length = ds.length
        · have hl' : ((gs.length : Nat) : Int) = (ds.length : Nat) := by omega
          cases k with
          | zero => simp [sdt] at hdu
          | succ k =>
            obtain ⟨j', rfl⟩ : ∃ j', j = j' + 1 := ⟨j - 1, by omega⟩
            simp only [sdt, sd, List.all_eq_true] at hdu hgo
            simp_arith only [hl']
            rw [zip_c (f := id) (g := id) (xs := gs) (ys := ds) (.inl (by rw [List.map_id])) (.inl (by rw [List.map_id]))]
            simp_arith only
            refine all_lc (fun p : D × D => p.1 = p.2) rfl (by rw [List.length_zip]; omega) ?_ ?_
            · rintro ⟨x, y⟩ hxy
              have h1 := (List.of_mem_zip hxy).1
              have h2 := (List.of_mem_zip hxy).2
              simp_arith only [wipe_2, List.set_cons_succ, List.set_cons_zero, id]
              rw [law_same_c hj k (by omega) (hdu y h2) (sd_mono (by omega) (hgo x h1)) (pbs_mem.mp pg.2 x h1) (pbs_mem.mp pd.2 y h2)]
              simp_arith only
            · simp_arith only
              congr 1
              refine tv_iff ?_
              rw [zip_all_eq hl]
              exact ⟨fun h => by rw [h], fun h => D.tup.inj h⟩
        · have hl' : ¬ ((gs.length : Nat) : Int) = (ds.length : Nat) := by omega
          simp_arith only [hl']
          exact no (p := True) fun h => hl (by rw [D.tup.inj h])
      | _ => first | (simp [sd] at hgo; done) | (simp_arith only; exact no (p := True) (by simp))
    | _ => simp [sdt] at hdu
end Lb

/-! Plain: risks. -/
local macro_rules
  | `(tactic| simp_arith only [$args,*]) => `(tactic| simp only [↓Mn.tcaseB_bl, ↓Mn.cps_ok, ↓Mn.cps_exc, ↓Mn.cps_stuck, ↓Mn.bind_is, ↓Mn.st_is, ↓Mn.only_is, ↓Mn.cps_cps, ↓Mn.bind_cps, ↓Mn.tcase_some, ↓Mn.cps_ite, ↓Mn.rdV_some, ↓Mn.ev_var, ↓Mn.ev_frz, ↓Mn.ev_cst, ↓Mn.ev_tup, ↓Mn.ev_lst, ↓Mn.ev_bin, ↓Mn.ev_neg, ↓Mn.ev_not, ↓Mn.ev_cmp, ↓Mn.ev_chain, ↓Mn.ev_ite, ↓Mn.ev_and, ↓Mn.ev_or, ↓Mn.ev_a1, ↓Mn.ev_r1, ↓Mn.ev_a2, ↓Mn.ev_r2, ↓Mn.ev_ix, ↓Mn.ev_sl, ↓Mn.ev_rev, ↓Mn.ev_call, ↓Mn.ev_bi, ↓Mn.ev_isi, ↓Mn.ev_bm, ↓Mn.ev_lc, ↓Mn.ev_nil, ↓Mn.ev_cons, ↓Mn.ev_o0, ↓Mn.ev_o1, ↓Mn.ev_iexp, ↓Mn.ev_irng1, ↓Mn.ev_irng2, ↓Mn.ev_ienum, ↓Mn.ev_izip, ↓Mn.tcase_bl, ↓Mn.tcase_int, ↓Mn.tcase_non, ↓Mn.tcase_tup, ↓Mn.tcase_lst, ↓Mn.tcase_scr, ↓Mn.bin_add_c, ↓Mn.bin_sub_c, ↓Mn.neg_int_c, ↓Mn.cmp_lt_c, ↓Mn.cmp_le_c, ↓Mn.cmp_gt_c, ↓Mn.cmp_ge_c, ↓Mn.cmp_eqi_c, ↓Mn.cmp_nei_c, ↓Mn.itr_tup_c, ↓Mn.itr_lst_c, ↓Mn.itr_scr_c, ↓Mn.len_seq_c, ↓Mn.len_lst_c, ↓Mn.len_scr_c, ↓Mn.bi_abs_c, ↓Mn.ofO_some_c, ↓Mn.newT_0_c, ↓Mn.newL_0_c, ↓Mn.newT_1_c, ↓Mn.newL_1_c, ↓Mn.newT_2_c, ↓Mn.newL_2_c, ↓Mn.newT_3_c, ↓Mn.newL_3_c, ↓Mn.newT_4_c, ↓Mn.newL_4_c, ↓Mn.newT_5_c, ↓Mn.newL_5_c, ↓Mn.newT_6_c, ↓Mn.newL_6_c, ↓Mn.newT_7_c, ↓Mn.newL_7_c, ↓Mn.newT_8_c, ↓Mn.newL_8_c, ↓Mn.newT_9_c, ↓Mn.newL_9_c, ↓Mn.isi_non_int_c, ↓Mn.isi_non_bool_c, ↓Mn.isi_non_str_c, ↓Mn.isi_non_tuple_c, ↓Mn.isi_non_list_c, ↓Mn.isi_bl_int_c, ↓Mn.isi_bl_bool_c, ↓Mn.isi_bl_str_c, ↓Mn.isi_bl_tuple_c, ↓Mn.isi_bl_list_c, ↓Mn.isi_int_int_c, ↓Mn.isi_int_bool_c, ↓Mn.isi_int_str_c, ↓Mn.isi_int_tuple_c, ↓Mn.isi_int_list_c, ↓Mn.isi_str_int_c, ↓Mn.isi_str_bool_c, ↓Mn.isi_str_str_c, ↓Mn.isi_str_tuple_c, ↓Mn.isi_str_list_c, ↓Mn.isi_tup_int_c, ↓Mn.isi_tup_bool_c, ↓Mn.isi_tup_str_c, ↓Mn.isi_tup_tuple_c, ↓Mn.isi_tup_list_c, ↓Mn.isi_lst_int_c, ↓Mn.isi_lst_bool_c, ↓Mn.isi_lst_str_c, ↓Mn.isi_lst_tuple_c, ↓Mn.isi_lst_list_c, ↓Mn.ix_t0_c, ↓Mn.ix_t1_c, ↓Mn.ix_l0_c, ↓Mn.ix_l1_c, ↓Mn.wp_nx, ↓Mn.wp_rt, ↓Mn.wp_exc, ↓Mn.wp_stuck, ↓Mn.wp_ite, ↓Mn.wpV_zero, ↓Mn.wpV_succ, ↓Mn.wpB_one, ↓Mn.wpB_2, ↓Mn.wpB_3, ↓Mn.wp_nil, ↓Mn.wp_cons, ↓Mn.wp_asg, ↓Mn.wp_put, ↓Mn.wp_asgT, ↓Mn.wp_tupS, ↓Mn.wp_ts0, ↓Mn.wp_tsV, ↓Mn.wp_tsS, ↓Mn.wp_par, ↓Mn.wp_expr, ↓Mn.wp_ret, ↓Mn.wp_if, ↓Mn.wp_for, ↓Mn.wp_while, ↓Mn.wp_rais, ↓Mn.wp_try, ↓Mn.hnd_cons, ↓Mn.enum_c, ↓Mn.enumL_c, ↓Mn.tuple_c, ↓Mn.tupleT_c, ↓Mn.fr_ix0, ↓Mn.fr_ix1, ↓Mn.eq_fr_c, ↓Mn.ne_fr_c, ↓Mn.ix_row, ↓Mn.len_row, ↓Mn.len_mdl, ↓Mn.len_los, ↓Mn.ix_mdl0, ↓Mn.isi_row_tuple, ↓Mn.cmp_is_c, ↓Mn.cmp_isnot_c, ↓Mn.cell_tup_c, ↓Mn.newL_nil_c, ↓Mn.slT_1, ↓Mn.slT_t1, ↓Mn.slT_t2, ↓Mn.slT_t4, ↓Mn.slT_l, ↓Mn.listT_c, ↓Mn.listL_c, ↓Mn.itr_rowD, ↓Mn.enum_rowD, ↓Mn.sl_rowD_1, ↓Mn.sl_rowD_t1, ↓Mn.sl_rowD_t2, ↓Mn.sl_rowD_t4, ↓Mn.sl_rowD_l, ↓Mn.list_rowD, ↓Mn.itr_mdl, ↓Mn.enum_mdl, ↓Mn.sl_mdl_1, ↓Mn.sl_mdl_t1, ↓Mn.sl_mdl_t2, ↓Mn.sl_mdl_t4, ↓Mn.sl_mdl_l, ↓Mn.list_mdl, ↓Mn.itr_losD, ↓Mn.enum_losD, ↓Mn.sl_losD_1, ↓Mn.sl_losD_t1, ↓Mn.sl_losD_t2, ↓Mn.sl_losD_t4, ↓Mn.sl_losD_l, ↓Mn.list_losD, ↓Mn.itr_intsD, ↓Mn.enum_intsD, ↓Mn.sl_intsD_1, ↓Mn.sl_intsD_t1, ↓Mn.sl_intsD_t2, ↓Mn.sl_intsD_t4, ↓Mn.sl_intsD_l, ↓Mn.list_intsD, ↓Mn.len_intsD, ↓Mn.itr_natsD, ↓Mn.enum_natsD, ↓Mn.sl_natsD_1, ↓Mn.sl_natsD_t1, ↓Mn.sl_natsD_t2, ↓Mn.sl_natsD_t4, ↓Mn.sl_natsD_l, ↓Mn.list_natsD, ↓Mn.len_natsD, ↓Mn.nebl_c, ↓Mn.nes_InvalidModel, ↓Mn.eqs_InvalidModel, ↓Mn.nes_InvalidLosses, ↓Mn.eqs_InvalidLosses, ↓Mn.nes_InvalidRule, ↓Mn.eqs_InvalidRule, ↓Mn.nes_InvalidMixed, ↓Mn.eqs_InvalidMixed, ↓Mn.nes_InvalidBelief, ↓Mn.eqs_InvalidBelief, ↓Mn.nes_InvalidObservation, ↓Mn.eqs_InvalidObservation, ↓Mn.nes_InvalidGrouping, ↓Mn.eqs_InvalidGrouping, ↓Mn.nes_NotSufficient, ↓Mn.eqs_NotSufficient, ↓Mn.nes_InvalidNumbers, ↓Mn.eqs_InvalidNumbers, ↓Mn.nes_InvalidEstimate, ↓Mn.eqs_InvalidEstimate, ↓Mn.nes_InvalidState, ↓Mn.eqs_InvalidState, ↓Mn.nes_ZeroChance, ↓Mn.eqs_ZeroChance, ↓Mn.nes_NoEstimate, ↓Mn.eqs_NoEstimate, ↓Mn.nes_UnlikeStates, ↓Mn.eqs_UnlikeStates, ↓Mn.nes_TooLarge, ↓Mn.eqs_TooLarge, ↓Mn.nes_InvalidTable, ↓Mn.eqs_InvalidTable, ↓Mn.nes_Impossible, ↓Mn.eqs_Impossible, ↓Mn.nes_NothingToUndo, ↓Mn.eqs_NothingToUndo, ↓Mn.nes_ParseError, ↓Mn.eqs_ParseError, ↓Mn.ck_c, Mn.truD_bl, Mn.truD_int, Mn.truD_non, Mn.truD_tup, Mn.truD_lst, Mn.truD_scr, Mn.tru1_bl, Mn.tru1_int, Mn.shaped_int, Mn.eqv_int, Mn.sq_tup, Mn.sq_lst, Mn.sq_scr, Mn.lst_lst, Mn.at_0, Mn.at_1, Mn.take_self, Mn.take_app, Mn.isNon_non, Mn.isNon_bl, Mn.isNon_int, Mn.isNon_str, Mn.isNon_tup, Mn.isNon_lst, Mn.isNon_fr, Mn.isNon_row, Mn.isNon_mdl, Mn.cell_at, Mn.cell_lst, Mn.intO_n, Mn.intO_i, Mn.isSome_s, Mn.isNon_intsD, Mn.isNon_natsD, Mn.nl_mdl, Mn.nl_row, Mn.nl_los, Mn.nl_ints, Mn.wd_mdl, Mn.orv_ok, List.getElem?_cons_zero, List.getElem?_cons_succ, ↓reduceIte, List.map_cons, List.map_nil, List.replicate, List.append, List.cons_append, List.nil_append, List.length_cons, List.length_nil, Nat.reduceSub, Nat.reduceAdd, Nat.sub_self, Bool.false_eq_true, Bool.not_true, Bool.not_false, decide_true, decide_false, List.length_map, bne_self_eq_false, and_true, true_and, and_self, $args,*])
  | `(tactic| simp_arith only) => `(tactic| simp only [↓Mn.tcaseB_bl, ↓Mn.cps_ok, ↓Mn.cps_exc, ↓Mn.cps_stuck, ↓Mn.bind_is, ↓Mn.st_is, ↓Mn.only_is, ↓Mn.cps_cps, ↓Mn.bind_cps, ↓Mn.tcase_some, ↓Mn.cps_ite, ↓Mn.rdV_some, ↓Mn.ev_var, ↓Mn.ev_frz, ↓Mn.ev_cst, ↓Mn.ev_tup, ↓Mn.ev_lst, ↓Mn.ev_bin, ↓Mn.ev_neg, ↓Mn.ev_not, ↓Mn.ev_cmp, ↓Mn.ev_chain, ↓Mn.ev_ite, ↓Mn.ev_and, ↓Mn.ev_or, ↓Mn.ev_a1, ↓Mn.ev_r1, ↓Mn.ev_a2, ↓Mn.ev_r2, ↓Mn.ev_ix, ↓Mn.ev_sl, ↓Mn.ev_rev, ↓Mn.ev_call, ↓Mn.ev_bi, ↓Mn.ev_isi, ↓Mn.ev_bm, ↓Mn.ev_lc, ↓Mn.ev_nil, ↓Mn.ev_cons, ↓Mn.ev_o0, ↓Mn.ev_o1, ↓Mn.ev_iexp, ↓Mn.ev_irng1, ↓Mn.ev_irng2, ↓Mn.ev_ienum, ↓Mn.ev_izip, ↓Mn.tcase_bl, ↓Mn.tcase_int, ↓Mn.tcase_non, ↓Mn.tcase_tup, ↓Mn.tcase_lst, ↓Mn.tcase_scr, ↓Mn.bin_add_c, ↓Mn.bin_sub_c, ↓Mn.neg_int_c, ↓Mn.cmp_lt_c, ↓Mn.cmp_le_c, ↓Mn.cmp_gt_c, ↓Mn.cmp_ge_c, ↓Mn.cmp_eqi_c, ↓Mn.cmp_nei_c, ↓Mn.itr_tup_c, ↓Mn.itr_lst_c, ↓Mn.itr_scr_c, ↓Mn.len_seq_c, ↓Mn.len_lst_c, ↓Mn.len_scr_c, ↓Mn.bi_abs_c, ↓Mn.ofO_some_c, ↓Mn.newT_0_c, ↓Mn.newL_0_c, ↓Mn.newT_1_c, ↓Mn.newL_1_c, ↓Mn.newT_2_c, ↓Mn.newL_2_c, ↓Mn.newT_3_c, ↓Mn.newL_3_c, ↓Mn.newT_4_c, ↓Mn.newL_4_c, ↓Mn.newT_5_c, ↓Mn.newL_5_c, ↓Mn.newT_6_c, ↓Mn.newL_6_c, ↓Mn.newT_7_c, ↓Mn.newL_7_c, ↓Mn.newT_8_c, ↓Mn.newL_8_c, ↓Mn.newT_9_c, ↓Mn.newL_9_c, ↓Mn.isi_non_int_c, ↓Mn.isi_non_bool_c, ↓Mn.isi_non_str_c, ↓Mn.isi_non_tuple_c, ↓Mn.isi_non_list_c, ↓Mn.isi_bl_int_c, ↓Mn.isi_bl_bool_c, ↓Mn.isi_bl_str_c, ↓Mn.isi_bl_tuple_c, ↓Mn.isi_bl_list_c, ↓Mn.isi_int_int_c, ↓Mn.isi_int_bool_c, ↓Mn.isi_int_str_c, ↓Mn.isi_int_tuple_c, ↓Mn.isi_int_list_c, ↓Mn.isi_str_int_c, ↓Mn.isi_str_bool_c, ↓Mn.isi_str_str_c, ↓Mn.isi_str_tuple_c, ↓Mn.isi_str_list_c, ↓Mn.isi_tup_int_c, ↓Mn.isi_tup_bool_c, ↓Mn.isi_tup_str_c, ↓Mn.isi_tup_tuple_c, ↓Mn.isi_tup_list_c, ↓Mn.isi_lst_int_c, ↓Mn.isi_lst_bool_c, ↓Mn.isi_lst_str_c, ↓Mn.isi_lst_tuple_c, ↓Mn.isi_lst_list_c, ↓Mn.ix_t0_c, ↓Mn.ix_t1_c, ↓Mn.ix_l0_c, ↓Mn.ix_l1_c, ↓Mn.wp_nx, ↓Mn.wp_rt, ↓Mn.wp_exc, ↓Mn.wp_stuck, ↓Mn.wp_ite, ↓Mn.wpV_zero, ↓Mn.wpV_succ, ↓Mn.wpB_one, ↓Mn.wpB_2, ↓Mn.wpB_3, ↓Mn.wp_nil, ↓Mn.wp_cons, ↓Mn.wp_asg, ↓Mn.wp_put, ↓Mn.wp_asgT, ↓Mn.wp_tupS, ↓Mn.wp_ts0, ↓Mn.wp_tsV, ↓Mn.wp_tsS, ↓Mn.wp_par, ↓Mn.wp_expr, ↓Mn.wp_ret, ↓Mn.wp_if, ↓Mn.wp_for, ↓Mn.wp_while, ↓Mn.wp_rais, ↓Mn.wp_try, ↓Mn.hnd_cons, ↓Mn.enum_c, ↓Mn.enumL_c, ↓Mn.tuple_c, ↓Mn.tupleT_c, ↓Mn.fr_ix0, ↓Mn.fr_ix1, ↓Mn.eq_fr_c, ↓Mn.ne_fr_c, ↓Mn.ix_row, ↓Mn.len_row, ↓Mn.len_mdl, ↓Mn.len_los, ↓Mn.ix_mdl0, ↓Mn.isi_row_tuple, ↓Mn.cmp_is_c, ↓Mn.cmp_isnot_c, ↓Mn.cell_tup_c, ↓Mn.newL_nil_c, ↓Mn.slT_1, ↓Mn.slT_t1, ↓Mn.slT_t2, ↓Mn.slT_t4, ↓Mn.slT_l, ↓Mn.listT_c, ↓Mn.listL_c, ↓Mn.itr_rowD, ↓Mn.enum_rowD, ↓Mn.sl_rowD_1, ↓Mn.sl_rowD_t1, ↓Mn.sl_rowD_t2, ↓Mn.sl_rowD_t4, ↓Mn.sl_rowD_l, ↓Mn.list_rowD, ↓Mn.itr_mdl, ↓Mn.enum_mdl, ↓Mn.sl_mdl_1, ↓Mn.sl_mdl_t1, ↓Mn.sl_mdl_t2, ↓Mn.sl_mdl_t4, ↓Mn.sl_mdl_l, ↓Mn.list_mdl, ↓Mn.itr_losD, ↓Mn.enum_losD, ↓Mn.sl_losD_1, ↓Mn.sl_losD_t1, ↓Mn.sl_losD_t2, ↓Mn.sl_losD_t4, ↓Mn.sl_losD_l, ↓Mn.list_losD, ↓Mn.itr_intsD, ↓Mn.enum_intsD, ↓Mn.sl_intsD_1, ↓Mn.sl_intsD_t1, ↓Mn.sl_intsD_t2, ↓Mn.sl_intsD_t4, ↓Mn.sl_intsD_l, ↓Mn.list_intsD, ↓Mn.len_intsD, ↓Mn.itr_natsD, ↓Mn.enum_natsD, ↓Mn.sl_natsD_1, ↓Mn.sl_natsD_t1, ↓Mn.sl_natsD_t2, ↓Mn.sl_natsD_t4, ↓Mn.sl_natsD_l, ↓Mn.list_natsD, ↓Mn.len_natsD, ↓Mn.nebl_c, ↓Mn.nes_InvalidModel, ↓Mn.eqs_InvalidModel, ↓Mn.nes_InvalidLosses, ↓Mn.eqs_InvalidLosses, ↓Mn.nes_InvalidRule, ↓Mn.eqs_InvalidRule, ↓Mn.nes_InvalidMixed, ↓Mn.eqs_InvalidMixed, ↓Mn.nes_InvalidBelief, ↓Mn.eqs_InvalidBelief, ↓Mn.nes_InvalidObservation, ↓Mn.eqs_InvalidObservation, ↓Mn.nes_InvalidGrouping, ↓Mn.eqs_InvalidGrouping, ↓Mn.nes_NotSufficient, ↓Mn.eqs_NotSufficient, ↓Mn.nes_InvalidNumbers, ↓Mn.eqs_InvalidNumbers, ↓Mn.nes_InvalidEstimate, ↓Mn.eqs_InvalidEstimate, ↓Mn.nes_InvalidState, ↓Mn.eqs_InvalidState, ↓Mn.nes_ZeroChance, ↓Mn.eqs_ZeroChance, ↓Mn.nes_NoEstimate, ↓Mn.eqs_NoEstimate, ↓Mn.nes_UnlikeStates, ↓Mn.eqs_UnlikeStates, ↓Mn.nes_TooLarge, ↓Mn.eqs_TooLarge, ↓Mn.nes_InvalidTable, ↓Mn.eqs_InvalidTable, ↓Mn.nes_Impossible, ↓Mn.eqs_Impossible, ↓Mn.nes_NothingToUndo, ↓Mn.eqs_NothingToUndo, ↓Mn.nes_ParseError, ↓Mn.eqs_ParseError, ↓Mn.ck_c, Mn.truD_bl, Mn.truD_int, Mn.truD_non, Mn.truD_tup, Mn.truD_lst, Mn.truD_scr, Mn.tru1_bl, Mn.tru1_int, Mn.shaped_int, Mn.eqv_int, Mn.sq_tup, Mn.sq_lst, Mn.sq_scr, Mn.lst_lst, Mn.at_0, Mn.at_1, Mn.take_self, Mn.take_app, Mn.isNon_non, Mn.isNon_bl, Mn.isNon_int, Mn.isNon_str, Mn.isNon_tup, Mn.isNon_lst, Mn.isNon_fr, Mn.isNon_row, Mn.isNon_mdl, Mn.cell_at, Mn.cell_lst, Mn.intO_n, Mn.intO_i, Mn.isSome_s, Mn.isNon_intsD, Mn.isNon_natsD, Mn.nl_mdl, Mn.nl_row, Mn.nl_los, Mn.nl_ints, Mn.wd_mdl, Mn.orv_ok, List.getElem?_cons_zero, List.getElem?_cons_succ, ↓reduceIte, List.map_cons, List.map_nil, List.replicate, List.append, List.cons_append, List.nil_append, List.length_cons, List.length_nil, Nat.reduceSub, Nat.reduceAdd, Nat.sub_self, Bool.false_eq_true, Bool.not_true, Bool.not_false, decide_true, decide_false, List.length_map, bne_self_eq_false, and_true, true_and, and_self])
namespace Mn
open PySem
/-- a column of losses -/
def col (ls : List (List Int)) (s : Nat) : List Rat := ls.map fun l => ((l.getD s 0 : Int) : Rat)
def riskV (row : List Rat) (c : List Rat) (x : List (List Rat)) : Rat := dot row (x.map (dot c))
def risksV (m : List (List Rat)) (ls : List (List Int)) (x : List (List Rat)) : List Rat := (List.range m.length).map fun s => riskV (m.getD s []) (col ls s) x
theorem zipIdx_range {α β : Type} (d : α) (f : α → Nat → β) (l : List α) : (l.zipIdx.map fun p => f p.1 p.2) = (List.range l.length).map fun i => f (l.getD i d) i := by
  apply List.ext_getElem?
  intro i
  rw [List.getElem?_map, List.getElem?_map, List.getElem?_zipIdx]
  by_cases h : i < l.length
  · rw [List.getElem?_range h, List.getElem?_eq_getElem h]
    simp [List.getD_eq_getElem?_getD, h]
  · rw [List.getElem?_eq_none (by simpa using h), List.getElem?_eq_none (by simp; omega)]
    rfl
theorem col_len {ls : List (List Int)} {s : Nat} : (col ls s).length = ls.length := by simp [col]
theorem szs_col {n : Nat} {ls : List (List Int)} {s : Nat} (h : ∀ r ∈ ls, ∀ i ∈ r, Bt n i) (hn : 1 ≤ n) : Szs n (col ls s) := by
  intro q hq
  obtain ⟨r, hr, rfl⟩ := List.mem_map.mp hq
  refine ⟨?_, Nat.lt_of_lt_of_le (show 1 < 2 ^ 1 by decide) (Nat.pow_le_pow_right (by decide) hn)⟩
  rw [Rat.num_intCast, List.getD_eq_getElem?_getD]
  cases e : r[s]? with
  | none => exact Nat.pow_pos (by decide)
  | some i => exact h r hr i (List.mem_of_getElem? e)
theorem VL.bt {s : Nat} {l : List (List Int)} (h : VL s l) : ∀ r ∈ l, ∀ i ∈ r, Bt 7 i := fun r hr i hi => bt_of (k := 99) (by have := h.b r hr i hi; omega) (by decide)
theorem szs_mean {c k : Nat} {x : List (List Rat)} {cl : List Rat} (hx : ∀ r ∈ x, Szs c r) (hc : Szs 7 cl) (hl : cl.length ≤ k) : Szs (k * (7 + c + 1) + 1) (x.map (dot cl)) := by
  intro q hq
  obtain ⟨r, hr, rfl⟩ := List.mem_map.mp hq
  exact sz_dot hc (hx r hr) (.inl hl)
theorem sz_riskV {a c w k : Nat} {row : List Rat} {x : List (List Rat)} {cl : List Rat} (hr : Szs a row) (hx : ∀ r ∈ x, Szs c r) (hc : Szs 7 cl) (hl : cl.length ≤ k) (hw : row.length ≤ w) : Sz (w * (a + (k * (7 + c + 1) + 1) + 1) + 1) (riskV row cl x) := sz_dot hr (szs_mean hx hc hl) (.inl hw)
theorem getD_mem {α : Type} {l : List α} {i : Nat} {d : α} (h : i < l.length) : l.getD i d ∈ l := by
  rw [List.getD_eq_getElem?_getD, List.getElem?_eq_getElem h]
  exact List.getElem_mem h
theorem szs_risksV {a c w k : Nat} {m : List (List Rat)} {ls : List (List Int)} {x : List (List Rat)} (hm : ∀ r ∈ m, Szs a r ∧ r.length ≤ w) (hx : ∀ r ∈ x, Szs c r) (hb : ∀ r ∈ ls, ∀ i ∈ r, Bt 7 i) (hl : ls.length ≤ k) : Szs (w * (a + (k * (7 + c + 1) + 1) + 1) + 1) (risksV m ls x) := by
  intro q hq
  obtain ⟨s, hs, rfl⟩ := List.mem_map.mp hq
  have := hm _ (getD_mem (d := []) (List.mem_range.mp hs))
  exact sz_riskV this.1 hx (szs_col hb (by omega)) (by rw [col_len]; exact hl) this.2
theorem risksV_len {m : List (List Rat)} {ls : List (List Int)} {x : List (List Rat)} : (risksV m ls x).length = m.length := by simp [risksV]
end Mn
namespace Lb
open PySem Mn
theorem mean_losses_c {b c k s : Nat} {S : Store} {v : D} {ls : List (List Int)} {r : List Rat} (hv : SqD v (ls.map intsD)) (hs : ∀ l ∈ ls, s < l.length) (hb : ∀ l ∈ ls, ∀ i ∈ l, Bt 7 i) (hr : Szs c r) (hl : ls.length ≤ k) (hk : k * (7 + c + 1) ≤ 7999) (hk1 : 1 ≤ k) (hk2 : k ≤ 10000) :
    d_mean_losses b [v, .int (s : Nat), rowD r] S = .ok (fr (dot (col ls s) r)) S := by
  refine run_eq rfl fr_pure ?_
  unfold b_mean_losses
  simp_arith only [itr_c hv]
  refine lc_map (fun l : List Int => fr ((l.getD s 0 : Int) : Rat)) rfl (line_le (by omega)) ?_ ?_
  · intro l hm
    simp_arith only [wipe_1, List.set_cons_succ, List.set_cons_zero, ix_ints (hs l hm), whole_c]
  · have e : ls.map (fun l : List Int => fr ((l.getD s 0 : Int) : Rat)) = (col ls s).map fr := by unfold col; rw [List.map_map]; rfl
    have h7 : 7 + c ≤ 8000 := by
      have := Nat.mul_le_mul_right (7 + c + 1) hk1
      omega
    rw [e, newL_c (by rw [List.length_map, col_len]; exact line_le (by omega)), product_sum_c (.inr rfl) sq_row (szs_col hb (by omega)) hr (.inl (by rw [col_len]; exact hl)) hk hk2 h7]
    simp_arith only
theorem risks_of_c {b a c w k : Nat} {S : Store} {v : D} {m : List (List Rat)} {ls : List (List Int)} {x : List (List Rat)} (hv : SqD v (ls.map intsD)) (hm : ∀ r ∈ m, Szs a r ∧ r.length ≤ w) (hs : ∀ l ∈ ls, l.length = m.length) (hb : ∀ l ∈ ls, ∀ i ∈ l, Bt 7 i) (hx : ∀ r ∈ x, Szs c r) (hl : ls.length ≤ k)
    (hk : k * (7 + c + 1) ≤ 7999) (hw : w * (a + (k * (7 + c + 1) + 1) + 1) ≤ 7999) (hk1 : 1 ≤ k) (hk2 : k ≤ 10000) (hw1 : 1 ≤ w) (hm3 : m.length ≤ 1000) :
    d_risks_of b [mdl m, v, mdl x] S = .ok (rowD (risksV m ls x)) S := by
  refine run_eq rfl rowD_pure ?_
  unfold b_risks_of mdl
  simp_arith only
  have hwle : a + (k * (7 + c + 1) + 1) + 1 ≤ 7999 := by
    have := Nat.mul_le_mul_right (a + (k * (7 + c + 1) + 1) + 1) hw1
    omega
  have hw7 : w ≤ 7999 := by
    have := Nat.mul_le_mul_left w (show 1 ≤ a + (k * (7 + c + 1) + 1) + 1 by omega)
    omega
  refine for_wp (fun pre ρ S' => S' = S ++ [Cell.lst (pre.map fun p : List Rat × Nat => fr (riskV p.1 (col ls p.2) x))] ∧ ∃ o4 o5 o6 o7 o8, ρ = [some (.tup (m.map rowD)), some v, some (.tup (x.map rowD)), some (.ref S.length), o4, o5, o6, o7, o8]) (fun _ _ _ _ => rfl) ⟨rfl, _, _, _, _, _, rfl⟩ ?_ ?_
  · rintro pre ⟨row, s⟩ post e ρ S' ⟨rfl, o4, o5, o6, o7, o8, rfl⟩
    have hmem : (row, s) ∈ m.zipIdx := by rw [e]; simp
    obtain ⟨hs1, hrow⟩ : s < m.length ∧ row ∈ m := by
      have := List.mem_zipIdx hmem
      simp at this
      exact ⟨this.1, by rw [this.2]; exact List.getElem_mem _⟩
    have hpre : pre.length < 1000 := by
      have : m.zipIdx.length = (pre ++ (row, s) :: post).length := by rw [e]
      simp at this
      omega
    have hmr := hm row hrow
    have hrw : SqD (rowD row) (row.map fr) := .inl rfl
    simp_arith only
    rw [zip_c hrw (.inl rfl)]
    simp_arith only
    refine lc_map (fun p : Rat × List Rat => fr (p.1 * dot (col ls s) p.2)) rfl (by rw [List.length_zip]; exact line_le (by omega)) ?_ ?_
    · rintro ⟨q, r⟩ hqr
      have hq := (List.of_mem_zip hqr).1
      have hr := (List.of_mem_zip hqr).2
      simp_arith only [wipe_2, List.set_cons_succ, List.set_cons_zero]
      rw [mean_losses_c (k := k) hv (fun l h => by rw [hs l h]; exact hs1) hb (hx r hr) hl hk hk1 hk2]
      simp_arith only
      rw [times_c (hmr.1 q hq) (sz_dot (szs_col hb (by omega)) (hx r hr) (.inl (by rw [col_len]; exact hl))) (by omega)]
      simp_arith only
    · have e2 : (row.zip x).map (fun p : Rat × List Rat => fr (p.1 * dot (col ls s) p.2)) = (prods row (x.map (dot (col ls s)))).map fr := by
        unfold prods
        rw [List.map_map, List.zip_map_right, List.map_map]
        rfl
      rw [e2, newL_c (by rw [List.length_map]; exact Nat.le_trans (prods_len (.inl hmr.2)) (line_le (by omega)))]
      have hsz := szs_prods hmr.1 (szs_mean hx (szs_col (s := s) hb (by omega)) (by rw [col_len]; exact hl))
      have hlen : (prods row (x.map (dot (col ls s)))).length ≤ w := prods_len (.inl hmr.2)
      simp_arith only [Option.isSome_some]
      rw [total_of_c (.inr rfl) hsz (Nat.le_trans (Nat.mul_le_mul_right _ hlen) hw)]
      simp_arith only
      rw [cell_app (by rw [List.length_map]; omega)]
      simp_arith only
      refine ⟨?_, _, _, _, _, _, rfl⟩
      simp [riskV, dot]
  · rintro ρ S' ⟨rfl, o4, o5, o6, o7, o8, rfl⟩
    simp_arith only [take_app]
    unfold rowD risksV
    rw [List.map_map, zipIdx_range [] (fun r s => fr (riskV r (col ls s) x))]
    rfl
theorem law_risks_c {b a c w k : Nat} {S : Store} {v : D} {m : List (List Rat)} {ls : List (List Int)} {x : List (List Rat)} (hv : SqD v (ls.map intsD)) (hm : ∀ r ∈ m, Szs a r ∧ r.length ≤ w) (hs : ∀ l ∈ ls, l.length = m.length) (hb : ∀ l ∈ ls, ∀ i ∈ l, Bt 7 i) (hx : ∀ r ∈ x, Szs c r) (hl : ls.length ≤ k)
    (hk : k * (7 + c + 1) ≤ 7999) (hw : w * (a + (k * (7 + c + 1) + 1) + 1) ≤ 7999) (hk1 : 1 ≤ k) (hk2 : k ≤ 10000) (hw1 : 1 ≤ w) (hm3 : m.length ≤ 1000) (hx3 : x.length ≤ 1000) :
    d__law_risks b [mdl m, v, mdl x] S = .ok (rowD (risksV m ls x)) S := by
  refine run_eq rfl rowD_pure ?_
  unfold b__law_risks
  simp_arith only [rng1_c (show m.length ≤ 1000000 by omega)]
  have hwle : a + (k * (7 + c + 1) + 1) + 1 ≤ 7999 := by
    have := Nat.mul_le_mul_right (a + (k * (7 + c + 1) + 1) + 1) hw1
    omega
  have hw7 : w ≤ 7999 := by
    have := Nat.mul_le_mul_left w (show 1 ≤ a + (k * (7 + c + 1) + 1) + 1 by omega)
    omega
  have h7 : 7 + c ≤ 8000 := by
    have := Nat.mul_le_mul_right (7 + c + 1) hk1
    omega
  refine for_wp (fun pre ρ S' => S' = S ++ [Cell.lst (pre.map fun s : Nat => fr (riskV (m.getD s []) (col ls s) x))] ∧ ∃ o4 o5 o6, ρ = [some (mdl m), some v, some (mdl x), some (.ref S.length), o4, o5, o6]) (fun _ _ _ _ => rfl) ⟨rfl, _, _, _, rfl⟩ ?_ ?_
  · rintro pre s post e ρ S' ⟨rfl, o4, o5, o6, rfl⟩
    obtain ⟨rfl, hs1⟩ := range_split e
    have hmr := hm _ (getD_mem (d := []) hs1)
    simp_arith only [itr_c hv]
    refine lc_map (fun l : List Int => fr ((l.getD pre.length 0 : Int) : Rat)) rfl (line_le (by omega)) ?_ ?_
    · intro l hl'
      simp_arith only [wipe_1, List.set_cons_succ, List.set_cons_zero, ix_ints (show pre.length < l.length by rw [hs l hl']; exact hs1)]
      rfl
    · have e1 : ls.map (fun l : List Int => fr ((l.getD pre.length 0 : Int) : Rat)) = (col ls pre.length).map fr := by unfold col; rw [List.map_map]; rfl
      rw [e1, newL_c (by rw [List.length_map, col_len]; exact line_le (by omega))]
      have hxs : SqD (mdl x) (x.map rowD) := .inl rfl
      simp_arith only [Option.isSome_some, ix_mdl_c hs1, itr_c hxs]
      refine lc_map (fun r : List Rat => fr (dot (col ls pre.length) r)) rfl (line_le (by omega)) ?_ ?_
      · intro r hr
        simp_arith only [wipe_1, List.set_cons_succ, List.set_cons_zero]
        rw [law_dot_c (.inr rfl) sq_row (szs_col hb (by omega)) (hx r hr) (.inl (by rw [col_len]; exact hl)) hk hk2 h7]
        simp_arith only
      · have e2 : x.map (fun r : List Rat => fr (dot (col ls pre.length) r)) = (x.map (dot (col ls pre.length))).map fr := by rw [List.map_map]; rfl
        rw [e2, newL_c (by simp only [List.length_map]; exact line_le (by omega))]
        rw [law_dot_c sq_row (.inr rfl) hmr.1 (szs_mean hx (szs_col (s := pre.length) hb (by omega)) (by rw [col_len]; exact hl)) (.inl hmr.2) hw (by omega) (by omega)]
        rw [cps_ok, cell_app (by rw [List.length_map]; omega)]
        simp_arith only
        refine ⟨?_, _, _, _, rfl⟩
        simp [riskV]
  · rintro ρ S' ⟨rfl, o4, o5, o6, rfl⟩
    simp_arith only [take_app]
    unfold rowD risksV
    rw [List.map_map]
    rfl
end Lb

/-! Plain: risks, with what is refused; what is drawn, read as models and losses. -/
local macro_rules
  | `(tactic| simp_arith only [$args,*]) => `(tactic| simp only [↓Mn.tcaseB_bl, ↓Mn.cps_ok, ↓Mn.cps_exc, ↓Mn.cps_stuck, ↓Mn.bind_is, ↓Mn.st_is, ↓Mn.only_is, ↓Mn.cps_cps, ↓Mn.bind_cps, ↓Mn.tcase_some, ↓Mn.cps_ite, ↓Mn.rdV_some, ↓Mn.ev_var, ↓Mn.ev_frz, ↓Mn.ev_cst, ↓Mn.ev_tup, ↓Mn.ev_lst, ↓Mn.ev_bin, ↓Mn.ev_neg, ↓Mn.ev_not, ↓Mn.ev_cmp, ↓Mn.ev_chain, ↓Mn.ev_ite, ↓Mn.ev_and, ↓Mn.ev_or, ↓Mn.ev_a1, ↓Mn.ev_r1, ↓Mn.ev_a2, ↓Mn.ev_r2, ↓Mn.ev_ix, ↓Mn.ev_sl, ↓Mn.ev_rev, ↓Mn.ev_call, ↓Mn.ev_bi, ↓Mn.ev_isi, ↓Mn.ev_bm, ↓Mn.ev_lc, ↓Mn.ev_nil, ↓Mn.ev_cons, ↓Mn.ev_o0, ↓Mn.ev_o1, ↓Mn.ev_iexp, ↓Mn.ev_irng1, ↓Mn.ev_irng2, ↓Mn.ev_ienum, ↓Mn.ev_izip, ↓Mn.tcase_bl, ↓Mn.tcase_int, ↓Mn.tcase_non, ↓Mn.tcase_tup, ↓Mn.tcase_lst, ↓Mn.tcase_scr, ↓Mn.bin_add_c, ↓Mn.bin_sub_c, ↓Mn.neg_int_c, ↓Mn.cmp_lt_c, ↓Mn.cmp_le_c, ↓Mn.cmp_gt_c, ↓Mn.cmp_ge_c, ↓Mn.cmp_eqi_c, ↓Mn.cmp_nei_c, ↓Mn.itr_tup_c, ↓Mn.itr_lst_c, ↓Mn.itr_scr_c, ↓Mn.len_seq_c, ↓Mn.len_lst_c, ↓Mn.len_scr_c, ↓Mn.bi_abs_c, ↓Mn.ofO_some_c, ↓Mn.newT_0_c, ↓Mn.newL_0_c, ↓Mn.newT_1_c, ↓Mn.newL_1_c, ↓Mn.newT_2_c, ↓Mn.newL_2_c, ↓Mn.newT_3_c, ↓Mn.newL_3_c, ↓Mn.newT_4_c, ↓Mn.newL_4_c, ↓Mn.newT_5_c, ↓Mn.newL_5_c, ↓Mn.newT_6_c, ↓Mn.newL_6_c, ↓Mn.newT_7_c, ↓Mn.newL_7_c, ↓Mn.newT_8_c, ↓Mn.newL_8_c, ↓Mn.newT_9_c, ↓Mn.newL_9_c, ↓Mn.isi_non_int_c, ↓Mn.isi_non_bool_c, ↓Mn.isi_non_str_c, ↓Mn.isi_non_tuple_c, ↓Mn.isi_non_list_c, ↓Mn.isi_bl_int_c, ↓Mn.isi_bl_bool_c, ↓Mn.isi_bl_str_c, ↓Mn.isi_bl_tuple_c, ↓Mn.isi_bl_list_c, ↓Mn.isi_int_int_c, ↓Mn.isi_int_bool_c, ↓Mn.isi_int_str_c, ↓Mn.isi_int_tuple_c, ↓Mn.isi_int_list_c, ↓Mn.isi_str_int_c, ↓Mn.isi_str_bool_c, ↓Mn.isi_str_str_c, ↓Mn.isi_str_tuple_c, ↓Mn.isi_str_list_c, ↓Mn.isi_tup_int_c, ↓Mn.isi_tup_bool_c, ↓Mn.isi_tup_str_c, ↓Mn.isi_tup_tuple_c, ↓Mn.isi_tup_list_c, ↓Mn.isi_lst_int_c, ↓Mn.isi_lst_bool_c, ↓Mn.isi_lst_str_c, ↓Mn.isi_lst_tuple_c, ↓Mn.isi_lst_list_c, ↓Mn.ix_t0_c, ↓Mn.ix_t1_c, ↓Mn.ix_l0_c, ↓Mn.ix_l1_c, ↓Mn.wp_nx, ↓Mn.wp_rt, ↓Mn.wp_exc, ↓Mn.wp_stuck, ↓Mn.wp_ite, ↓Mn.wpV_zero, ↓Mn.wpV_succ, ↓Mn.wpB_one, ↓Mn.wpB_2, ↓Mn.wpB_3, ↓Mn.wp_nil, ↓Mn.wp_cons, ↓Mn.wp_asg, ↓Mn.wp_put, ↓Mn.wp_asgT, ↓Mn.wp_tupS, ↓Mn.wp_ts0, ↓Mn.wp_tsV, ↓Mn.wp_tsS, ↓Mn.wp_par, ↓Mn.wp_expr, ↓Mn.wp_ret, ↓Mn.wp_if, ↓Mn.wp_for, ↓Mn.wp_while, ↓Mn.wp_rais, ↓Mn.wp_try, ↓Mn.hnd_cons, ↓Mn.enum_c, ↓Mn.enumL_c, ↓Mn.tuple_c, ↓Mn.tupleT_c, ↓Mn.fr_ix0, ↓Mn.fr_ix1, ↓Mn.eq_fr_c, ↓Mn.ne_fr_c, ↓Mn.ix_row, ↓Mn.len_row, ↓Mn.len_mdl, ↓Mn.len_los, ↓Mn.ix_mdl0, ↓Mn.isi_row_tuple, ↓Mn.cmp_is_c, ↓Mn.cmp_isnot_c, ↓Mn.cell_tup_c, ↓Mn.newL_nil_c, ↓Mn.slT_1, ↓Mn.slT_t1, ↓Mn.slT_t2, ↓Mn.slT_t4, ↓Mn.slT_l, ↓Mn.listT_c, ↓Mn.listL_c, ↓Mn.itr_rowD, ↓Mn.enum_rowD, ↓Mn.sl_rowD_1, ↓Mn.sl_rowD_t1, ↓Mn.sl_rowD_t2, ↓Mn.sl_rowD_t4, ↓Mn.sl_rowD_l, ↓Mn.list_rowD, ↓Mn.itr_mdl, ↓Mn.enum_mdl, ↓Mn.sl_mdl_1, ↓Mn.sl_mdl_t1, ↓Mn.sl_mdl_t2, ↓Mn.sl_mdl_t4, ↓Mn.sl_mdl_l, ↓Mn.list_mdl, ↓Mn.itr_losD, ↓Mn.enum_losD, ↓Mn.sl_losD_1, ↓Mn.sl_losD_t1, ↓Mn.sl_losD_t2, ↓Mn.sl_losD_t4, ↓Mn.sl_losD_l, ↓Mn.list_losD, ↓Mn.itr_intsD, ↓Mn.enum_intsD, ↓Mn.sl_intsD_1, ↓Mn.sl_intsD_t1, ↓Mn.sl_intsD_t2, ↓Mn.sl_intsD_t4, ↓Mn.sl_intsD_l, ↓Mn.list_intsD, ↓Mn.len_intsD, ↓Mn.itr_natsD, ↓Mn.enum_natsD, ↓Mn.sl_natsD_1, ↓Mn.sl_natsD_t1, ↓Mn.sl_natsD_t2, ↓Mn.sl_natsD_t4, ↓Mn.sl_natsD_l, ↓Mn.list_natsD, ↓Mn.len_natsD, ↓Mn.nebl_c, ↓Mn.nes_InvalidModel, ↓Mn.eqs_InvalidModel, ↓Mn.nes_InvalidLosses, ↓Mn.eqs_InvalidLosses, ↓Mn.nes_InvalidRule, ↓Mn.eqs_InvalidRule, ↓Mn.nes_InvalidMixed, ↓Mn.eqs_InvalidMixed, ↓Mn.nes_InvalidBelief, ↓Mn.eqs_InvalidBelief, ↓Mn.nes_InvalidObservation, ↓Mn.eqs_InvalidObservation, ↓Mn.nes_InvalidGrouping, ↓Mn.eqs_InvalidGrouping, ↓Mn.nes_NotSufficient, ↓Mn.eqs_NotSufficient, ↓Mn.nes_InvalidNumbers, ↓Mn.eqs_InvalidNumbers, ↓Mn.nes_InvalidEstimate, ↓Mn.eqs_InvalidEstimate, ↓Mn.nes_InvalidState, ↓Mn.eqs_InvalidState, ↓Mn.nes_ZeroChance, ↓Mn.eqs_ZeroChance, ↓Mn.nes_NoEstimate, ↓Mn.eqs_NoEstimate, ↓Mn.nes_UnlikeStates, ↓Mn.eqs_UnlikeStates, ↓Mn.nes_TooLarge, ↓Mn.eqs_TooLarge, ↓Mn.nes_InvalidTable, ↓Mn.eqs_InvalidTable, ↓Mn.nes_Impossible, ↓Mn.eqs_Impossible, ↓Mn.nes_NothingToUndo, ↓Mn.eqs_NothingToUndo, ↓Mn.nes_ParseError, ↓Mn.eqs_ParseError, ↓Mn.ck_c, Mn.truD_bl, Mn.truD_int, Mn.truD_non, Mn.truD_tup, Mn.truD_lst, Mn.truD_scr, Mn.tru1_bl, Mn.tru1_int, Mn.shaped_int, Mn.eqv_int, Mn.sq_tup, Mn.sq_lst, Mn.sq_scr, Mn.lst_lst, Mn.at_0, Mn.at_1, Mn.take_self, Mn.take_app, Mn.isNon_non, Mn.isNon_bl, Mn.isNon_int, Mn.isNon_str, Mn.isNon_tup, Mn.isNon_lst, Mn.isNon_fr, Mn.isNon_row, Mn.isNon_mdl, Mn.cell_at, Mn.cell_lst, Mn.intO_n, Mn.intO_i, Mn.isSome_s, Mn.isNon_intsD, Mn.isNon_natsD, Mn.nl_mdl, Mn.nl_row, Mn.nl_los, Mn.nl_ints, Mn.wd_mdl, Mn.orv_ok, List.getElem?_cons_zero, List.getElem?_cons_succ, ↓reduceIte, List.map_cons, List.map_nil, List.replicate, List.append, List.cons_append, List.nil_append, List.length_cons, List.length_nil, Nat.reduceSub, Nat.reduceAdd, Nat.sub_self, Bool.false_eq_true, Bool.not_true, Bool.not_false, decide_true, decide_false, List.length_map, bne_self_eq_false, and_true, true_and, and_self, $args,*])
  | `(tactic| simp_arith only) => `(tactic| simp only [↓Mn.tcaseB_bl, ↓Mn.cps_ok, ↓Mn.cps_exc, ↓Mn.cps_stuck, ↓Mn.bind_is, ↓Mn.st_is, ↓Mn.only_is, ↓Mn.cps_cps, ↓Mn.bind_cps, ↓Mn.tcase_some, ↓Mn.cps_ite, ↓Mn.rdV_some, ↓Mn.ev_var, ↓Mn.ev_frz, ↓Mn.ev_cst, ↓Mn.ev_tup, ↓Mn.ev_lst, ↓Mn.ev_bin, ↓Mn.ev_neg, ↓Mn.ev_not, ↓Mn.ev_cmp, ↓Mn.ev_chain, ↓Mn.ev_ite, ↓Mn.ev_and, ↓Mn.ev_or, ↓Mn.ev_a1, ↓Mn.ev_r1, ↓Mn.ev_a2, ↓Mn.ev_r2, ↓Mn.ev_ix, ↓Mn.ev_sl, ↓Mn.ev_rev, ↓Mn.ev_call, ↓Mn.ev_bi, ↓Mn.ev_isi, ↓Mn.ev_bm, ↓Mn.ev_lc, ↓Mn.ev_nil, ↓Mn.ev_cons, ↓Mn.ev_o0, ↓Mn.ev_o1, ↓Mn.ev_iexp, ↓Mn.ev_irng1, ↓Mn.ev_irng2, ↓Mn.ev_ienum, ↓Mn.ev_izip, ↓Mn.tcase_bl, ↓Mn.tcase_int, ↓Mn.tcase_non, ↓Mn.tcase_tup, ↓Mn.tcase_lst, ↓Mn.tcase_scr, ↓Mn.bin_add_c, ↓Mn.bin_sub_c, ↓Mn.neg_int_c, ↓Mn.cmp_lt_c, ↓Mn.cmp_le_c, ↓Mn.cmp_gt_c, ↓Mn.cmp_ge_c, ↓Mn.cmp_eqi_c, ↓Mn.cmp_nei_c, ↓Mn.itr_tup_c, ↓Mn.itr_lst_c, ↓Mn.itr_scr_c, ↓Mn.len_seq_c, ↓Mn.len_lst_c, ↓Mn.len_scr_c, ↓Mn.bi_abs_c, ↓Mn.ofO_some_c, ↓Mn.newT_0_c, ↓Mn.newL_0_c, ↓Mn.newT_1_c, ↓Mn.newL_1_c, ↓Mn.newT_2_c, ↓Mn.newL_2_c, ↓Mn.newT_3_c, ↓Mn.newL_3_c, ↓Mn.newT_4_c, ↓Mn.newL_4_c, ↓Mn.newT_5_c, ↓Mn.newL_5_c, ↓Mn.newT_6_c, ↓Mn.newL_6_c, ↓Mn.newT_7_c, ↓Mn.newL_7_c, ↓Mn.newT_8_c, ↓Mn.newL_8_c, ↓Mn.newT_9_c, ↓Mn.newL_9_c, ↓Mn.isi_non_int_c, ↓Mn.isi_non_bool_c, ↓Mn.isi_non_str_c, ↓Mn.isi_non_tuple_c, ↓Mn.isi_non_list_c, ↓Mn.isi_bl_int_c, ↓Mn.isi_bl_bool_c, ↓Mn.isi_bl_str_c, ↓Mn.isi_bl_tuple_c, ↓Mn.isi_bl_list_c, ↓Mn.isi_int_int_c, ↓Mn.isi_int_bool_c, ↓Mn.isi_int_str_c, ↓Mn.isi_int_tuple_c, ↓Mn.isi_int_list_c, ↓Mn.isi_str_int_c, ↓Mn.isi_str_bool_c, ↓Mn.isi_str_str_c, ↓Mn.isi_str_tuple_c, ↓Mn.isi_str_list_c, ↓Mn.isi_tup_int_c, ↓Mn.isi_tup_bool_c, ↓Mn.isi_tup_str_c, ↓Mn.isi_tup_tuple_c, ↓Mn.isi_tup_list_c, ↓Mn.isi_lst_int_c, ↓Mn.isi_lst_bool_c, ↓Mn.isi_lst_str_c, ↓Mn.isi_lst_tuple_c, ↓Mn.isi_lst_list_c, ↓Mn.ix_t0_c, ↓Mn.ix_t1_c, ↓Mn.ix_l0_c, ↓Mn.ix_l1_c, ↓Mn.wp_nx, ↓Mn.wp_rt, ↓Mn.wp_exc, ↓Mn.wp_stuck, ↓Mn.wp_ite, ↓Mn.wpV_zero, ↓Mn.wpV_succ, ↓Mn.wpB_one, ↓Mn.wpB_2, ↓Mn.wpB_3, ↓Mn.wp_nil, ↓Mn.wp_cons, ↓Mn.wp_asg, ↓Mn.wp_put, ↓Mn.wp_asgT, ↓Mn.wp_tupS, ↓Mn.wp_ts0, ↓Mn.wp_tsV, ↓Mn.wp_tsS, ↓Mn.wp_par, ↓Mn.wp_expr, ↓Mn.wp_ret, ↓Mn.wp_if, ↓Mn.wp_for, ↓Mn.wp_while, ↓Mn.wp_rais, ↓Mn.wp_try, ↓Mn.hnd_cons, ↓Mn.enum_c, ↓Mn.enumL_c, ↓Mn.tuple_c, ↓Mn.tupleT_c, ↓Mn.fr_ix0, ↓Mn.fr_ix1, ↓Mn.eq_fr_c, ↓Mn.ne_fr_c, ↓Mn.ix_row, ↓Mn.len_row, ↓Mn.len_mdl, ↓Mn.len_los, ↓Mn.ix_mdl0, ↓Mn.isi_row_tuple, ↓Mn.cmp_is_c, ↓Mn.cmp_isnot_c, ↓Mn.cell_tup_c, ↓Mn.newL_nil_c, ↓Mn.slT_1, ↓Mn.slT_t1, ↓Mn.slT_t2, ↓Mn.slT_t4, ↓Mn.slT_l, ↓Mn.listT_c, ↓Mn.listL_c, ↓Mn.itr_rowD, ↓Mn.enum_rowD, ↓Mn.sl_rowD_1, ↓Mn.sl_rowD_t1, ↓Mn.sl_rowD_t2, ↓Mn.sl_rowD_t4, ↓Mn.sl_rowD_l, ↓Mn.list_rowD, ↓Mn.itr_mdl, ↓Mn.enum_mdl, ↓Mn.sl_mdl_1, ↓Mn.sl_mdl_t1, ↓Mn.sl_mdl_t2, ↓Mn.sl_mdl_t4, ↓Mn.sl_mdl_l, ↓Mn.list_mdl, ↓Mn.itr_losD, ↓Mn.enum_losD, ↓Mn.sl_losD_1, ↓Mn.sl_losD_t1, ↓Mn.sl_losD_t2, ↓Mn.sl_losD_t4, ↓Mn.sl_losD_l, ↓Mn.list_losD, ↓Mn.itr_intsD, ↓Mn.enum_intsD, ↓Mn.sl_intsD_1, ↓Mn.sl_intsD_t1, ↓Mn.sl_intsD_t2, ↓Mn.sl_intsD_t4, ↓Mn.sl_intsD_l, ↓Mn.list_intsD, ↓Mn.len_intsD, ↓Mn.itr_natsD, ↓Mn.enum_natsD, ↓Mn.sl_natsD_1, ↓Mn.sl_natsD_t1, ↓Mn.sl_natsD_t2, ↓Mn.sl_natsD_t4, ↓Mn.sl_natsD_l, ↓Mn.list_natsD, ↓Mn.len_natsD, ↓Mn.nebl_c, ↓Mn.nes_InvalidModel, ↓Mn.eqs_InvalidModel, ↓Mn.nes_InvalidLosses, ↓Mn.eqs_InvalidLosses, ↓Mn.nes_InvalidRule, ↓Mn.eqs_InvalidRule, ↓Mn.nes_InvalidMixed, ↓Mn.eqs_InvalidMixed, ↓Mn.nes_InvalidBelief, ↓Mn.eqs_InvalidBelief, ↓Mn.nes_InvalidObservation, ↓Mn.eqs_InvalidObservation, ↓Mn.nes_InvalidGrouping, ↓Mn.eqs_InvalidGrouping, ↓Mn.nes_NotSufficient, ↓Mn.eqs_NotSufficient, ↓Mn.nes_InvalidNumbers, ↓Mn.eqs_InvalidNumbers, ↓Mn.nes_InvalidEstimate, ↓Mn.eqs_InvalidEstimate, ↓Mn.nes_InvalidState, ↓Mn.eqs_InvalidState, ↓Mn.nes_ZeroChance, ↓Mn.eqs_ZeroChance, ↓Mn.nes_NoEstimate, ↓Mn.eqs_NoEstimate, ↓Mn.nes_UnlikeStates, ↓Mn.eqs_UnlikeStates, ↓Mn.nes_TooLarge, ↓Mn.eqs_TooLarge, ↓Mn.nes_InvalidTable, ↓Mn.eqs_InvalidTable, ↓Mn.nes_Impossible, ↓Mn.eqs_Impossible, ↓Mn.nes_NothingToUndo, ↓Mn.eqs_NothingToUndo, ↓Mn.nes_ParseError, ↓Mn.eqs_ParseError, ↓Mn.ck_c, Mn.truD_bl, Mn.truD_int, Mn.truD_non, Mn.truD_tup, Mn.truD_lst, Mn.truD_scr, Mn.tru1_bl, Mn.tru1_int, Mn.shaped_int, Mn.eqv_int, Mn.sq_tup, Mn.sq_lst, Mn.sq_scr, Mn.lst_lst, Mn.at_0, Mn.at_1, Mn.take_self, Mn.take_app, Mn.isNon_non, Mn.isNon_bl, Mn.isNon_int, Mn.isNon_str, Mn.isNon_tup, Mn.isNon_lst, Mn.isNon_fr, Mn.isNon_row, Mn.isNon_mdl, Mn.cell_at, Mn.cell_lst, Mn.intO_n, Mn.intO_i, Mn.isSome_s, Mn.isNon_intsD, Mn.isNon_natsD, Mn.nl_mdl, Mn.nl_row, Mn.nl_los, Mn.nl_ints, Mn.wd_mdl, Mn.orv_ok, List.getElem?_cons_zero, List.getElem?_cons_succ, ↓reduceIte, List.map_cons, List.map_nil, List.replicate, List.append, List.cons_append, List.nil_append, List.length_cons, List.length_nil, Nat.reduceSub, Nat.reduceAdd, Nat.sub_self, Bool.false_eq_true, Bool.not_true, Bool.not_false, decide_true, decide_false, List.length_map, bne_self_eq_false, and_true, true_and, and_self])
namespace Mn
open PySem
/-! reading back -/
def frOf : D → Rat
  | .tup [.int a, .int b] => Rat.divInt a b
  | _ => 0
def items : D → List D
  | .tup ds => ds
  | _ => []
def rowOf (d : D) : List Rat := (items d).map frOf
def mdlOf (d : D) : List (List Rat) := (items d).map rowOf
def intOf : D → Int
  | .int i => i
  | _ => 0
def intsOf' (d : D) : List Int := (items d).map intOf
def losOf (d : D) : List (List Int) := (items d).map intsOf'
theorem map_back {α : Type} {f : α → D} {g : D → α} (h : ∀ a, g (f a) = a) {l : List α} : (l.map f).map g = l := by
  rw [List.map_map]
  conv => rhs; rw [← List.map_id l]
  exact List.map_congr_left fun a _ => h a
@[simp] theorem frOf_fr {q : Rat} : frOf (fr q) = q := Rat.num_divInt_den q
@[simp] theorem rowOf_row {l : List Rat} : rowOf (rowD l) = l := map_back fun _ => frOf_fr
@[simp] theorem mdlOf_mdl {m : List (List Rat)} : mdlOf (mdl m) = m := map_back fun _ => rowOf_row
@[simp] theorem intsOf_ints {l : List Int} : intsOf' (intsD l) = l := map_back fun _ => rfl
@[simp] theorem losOf_los {l : List (List Int)} : losOf (losD l) = l := map_back fun _ => intsOf_ints
end Mn
namespace Lb
open PySem Mn
theorem risks_e {b : Nat} {S : Store} {u v r : D} (hu : Pd u) (hv : Pd v) (hr : Pd r) : d_risks b [u, v, r] S = ck (IsM u) 1 S (ck (IsL (nl u) v) 2 S (ck (IsR (nl (it0 u)) (nl v) r) 3 S (.ok (rowD (risksV (mdlOf u) (losOf v) ((rlOf r).map (unit (nl v))))) S))) := by
  refine run_val rfl ?_
  unfold b_risks
  simp_arith only [require_rule_e hu hv hr]
  by_cases h : IsM u
  · by_cases h2 : IsL (nl u) v
    · by_cases h3 : IsR (nl (it0 u)) (nl v) r
      · simp_arith only [tv_of h, tv_of h2, tv_of h3, ck_ok h, ck_ok h2, ck_ok h3]
        obtain ⟨m, rfl, vm⟩ := h
        obtain ⟨l, rfl, vl⟩ := h2
        obtain ⟨rs, rfl, e4, _⟩ := h3
        rw [nl_mdl] at vl
        rw [wd_mdl] at e4
        have hm7 := mdl_pb hu
        have h6 := vm.w6
        have hn3 := vm.n3
        have hl3 := vl.n3
        rw [mixed_of_c (u := natsD rs) (rs := rs) (ds := l.map intsD) sq_los sq_nats (by simp; omega) (by omega)]
        simp_arith only
        rw [risks_of_c (a := 200) (c := 1) (w := 6) (k := 3) sq_los (fun r hr => ⟨hm7.2 r hr, by rw [vm.w r hr]; exact h6⟩) vl.w vl.bt (fun r hr => by
          obtain ⟨a, _, rfl⟩ := List.mem_map.mp hr
          exact sz_unit) vl.n3 (by omega) (by omega) (by omega) (by omega) (by omega) (by omega)]
        simp_arith only
        simp only [mdlOf_mdl, losOf_los, rlOf_nats]
        exact ⟨rowD_pure, trivial⟩
      · simp_arith only [tv_of h, tv_of h2, tv_no h3, ck_ok h, ck_ok h2, ck_no h3]
    · simp_arith only [tv_of h, tv_no h2, ck_ok h, ck_no h2]
  · simp_arith only [tv_no h, ck_no h]
theorem mixed_risks_e {b : Nat} {S : Store} {u v r : D} (hu : Pd u) (hv : Pd v) (hr : Pd r) : d_mixed_risks b [u, v, r] S = ck (IsM u) 1 S (ck (IsL (nl u) v) 2 S (ck (IsX (nl (it0 u)) (nl v) r) 4 S (.ok (rowD (risksV (mdlOf u) (losOf v) (mdlOf r))) S))) := by
  refine run_val rfl ?_
  unfold b_mixed_risks
  simp_arith only [require_mixed_e hu hv hr]
  by_cases h : IsM u
  · by_cases h2 : IsL (nl u) v
    · by_cases h3 : IsX (nl (it0 u)) (nl v) r
      · simp_arith only [tv_of h, tv_of h2, tv_of h3, ck_ok h, ck_ok h2, ck_ok h3]
        obtain ⟨m, rfl, vm⟩ := h
        obtain ⟨l, rfl, vl⟩ := h2
        obtain ⟨x, rfl, vx⟩ := h3
        rw [nl_mdl] at vl
        have hm7 := mdl_pb hu
        have h6 := vm.w6
        have hn3 := vm.n3
        have hl3 := vl.n3
        rw [risks_of_c (a := 200) (c := 200) (w := 6) (k := 3) sq_los (fun r hr => ⟨hm7.2 r hr, by rw [vm.w r hr]; exact h6⟩) vl.w vl.bt (mdl_pb hr).2 vl.n3 (by omega) (by omega) (by omega) (by omega) (by omega) (by omega)]
        simp_arith only
        simp only [mdlOf_mdl, losOf_los, rlOf_nats]
        exact ⟨rowD_pure, trivial⟩
      · simp_arith only [tv_of h, tv_of h2, tv_no h3, ck_ok h, ck_ok h2, ck_no h3]
    · simp_arith only [tv_of h, tv_no h2, ck_ok h, ck_no h2]
  · simp_arith only [tv_no h, ck_no h]
/-! drawn -/
theorem drawn_model {b n k most : Nat} {S : Store} {ns : List Int} (hns : ns.length ≤ 63) (h : St n k S) (hk : k ≤ 800000) (h1 : 1 ≤ most) (h6 : most ≤ 6) :
    (d__law_model b [scriptD ns, .ref n, .int (most : Nat)] S).W fun r S' => ∃ m, r = mdl m ∧ Md 7 m ∧ wd m ≤ most ∧ Dr n (k + 100) S S' := by
  refine ⟨W_then (law_model_w hns h hk h1 h6) ?_⟩
  rintro _ S' ⟨m, rfl, h1, h2, h3, h4⟩
  exact ⟨m, rfl, ⟨h1, h3, by omega⟩, h2, h4⟩
theorem drawn_losses {b n k : Nat} {S : Store} {ns : List Int} {m : List (List Rat)} (hns : ns.length ≤ 63) (h : St n k S) (hk : k ≤ 800000) (hm : m.length ≤ 8) :
    (d__law_losses b [scriptD ns, .ref n, mdl m] S).W fun r S' => ∃ l, r = losD l ∧ VL m.length l ∧ (∀ r ∈ l, ∀ i ∈ r, -4 ≤ i ∧ i ≤ 4) ∧ Dr n (k + 100) S S' := by
  refine ⟨W_then (law_losses_w (ms := m.map rowD) hns h hk (by simpa using hm)) ?_⟩
  rintro _ S' ⟨l, rfl, h1, h2, h3⟩
  rw [List.length_map] at h1
  exact ⟨l, rfl, h1, h2, h3⟩
theorem drawn_mixed {b n k : Nat} {S : Store} {ns : List Int} {m : List (List Rat)} {l : List (List Int)} (hns : ns.length ≤ 63) (h : St n k S) (hk : k ≤ 800000) (hm : VM m) (hl : VL m.length l) :
    (d__law_mixed b [scriptD ns, .ref n, mdl m, losD l] S).W fun r S' => ∃ x, r = mdl x ∧ Xd 7 (wd m) l.length x ∧ Dr n (k + 500) S S' := by
  obtain ⟨r0, m', rfl⟩ : ∃ r m', m = r :: m' := by
    cases m with
    | nil => exact absurd rfl hm.ne
    | cons r m' => exact ⟨r, m', rfl⟩
  have := hl.n1
  have := hl.n3
  have h6 := hm.w6
  refine ⟨W_then (law_mixed_w (r0 := r0) (rest := m'.map rowD) (ls := l.map intsD) hns h hk (by simp [wd] at h6; omega) (by simp; omega) (by simp; omega)) ?_⟩
  rintro _ S' ⟨x, rfl, h1, h2, h3⟩
  rw [List.length_map] at h1
  exact ⟨x, rfl, ⟨h1, h2, by omega⟩, h3⟩
theorem drawn_chances {b n k m : Nat} {S : Store} {ns : List Int} (hns : ns.length ≤ 63) (h : St n k S) (hk : k ≤ 800000) (hm : 0 < m) (hm8 : m ≤ 8) :
    (d__law_chances b [scriptD ns, .ref n, .int (m : Nat)] S).W fun r S' => ∃ l, r = rowD l ∧ Bd 7 m l ∧ Dr n (k + 20) S S' := by
  refine ⟨W_then (law_chances_w hns h (by omega) hm hm8) ?_⟩
  rintro _ S' ⟨l, rfl, h1, h2, h3, h4⟩
  exact ⟨l, rfl, ⟨h2, h1, h3, by omega⟩, h4⟩
/-! what is told -/
theorem law_risks_or_e {b : Nat} {S : Store} {u v r : D} (hu : Pd u) (hv : Pd v) (hr : Pd r) : d__law_risks_or b [u, v, r] S = if tv (IsM u) = true then if tv (IsL (nl u) v) = true then if tv (IsR (nl (it0 u)) (nl v) r) = true then .ok (rowD (risksV (mdlOf u) (losOf v) ((rlOf r).map (unit (nl v))))) S else .ok (.str "InvalidRule") S else .ok (.str "InvalidLosses") S else .ok (.str "InvalidModel") S := by
  refine or_gen rfl ?_ (risks_e hu hv hr) ?_ ?_ ?_
  · rfl
  · simp only [ck_c, cps_ok, rowD_pure, and_self]
    repeat' split
    all_goals trivial
  · simp only [orv_ck, orv_ex, orv_ok]
    rfl
  · repeat' split
    all_goals simp
theorem law_mixed_risks_or_e {b : Nat} {S : Store} {u v r : D} (hu : Pd u) (hv : Pd v) (hr : Pd r) : d__law_mixed_risks_or b [u, v, r] S = if tv (IsM u) = true then if tv (IsL (nl u) v) = true then if tv (IsX (nl (it0 u)) (nl v) r) = true then .ok (rowD (risksV (mdlOf u) (losOf v) (mdlOf r))) S else .ok (.str "InvalidMixed") S else .ok (.str "InvalidLosses") S else .ok (.str "InvalidModel") S := by
  refine or_gen rfl ?_ (mixed_risks_e hu hv hr) ?_ ?_ ?_
  · rfl
  · simp only [ck_c, cps_ok, rowD_pure, and_self]
    repeat' split
    all_goals trivial
  · simp only [orv_ck, orv_ex, orv_ok]
    rfl
  · repeat' split
    all_goals simp
end Lb

/-! Plain: beliefs. -/
local macro_rules
  | `(tactic| simp_arith only [$args,*]) => `(tactic| simp only [↓Mn.tcaseB_bl, ↓Mn.cps_ok, ↓Mn.cps_exc, ↓Mn.cps_stuck, ↓Mn.bind_is, ↓Mn.st_is, ↓Mn.only_is, ↓Mn.cps_cps, ↓Mn.bind_cps, ↓Mn.tcase_some, ↓Mn.cps_ite, ↓Mn.rdV_some, ↓Mn.ev_var, ↓Mn.ev_frz, ↓Mn.ev_cst, ↓Mn.ev_tup, ↓Mn.ev_lst, ↓Mn.ev_bin, ↓Mn.ev_neg, ↓Mn.ev_not, ↓Mn.ev_cmp, ↓Mn.ev_chain, ↓Mn.ev_ite, ↓Mn.ev_and, ↓Mn.ev_or, ↓Mn.ev_a1, ↓Mn.ev_r1, ↓Mn.ev_a2, ↓Mn.ev_r2, ↓Mn.ev_ix, ↓Mn.ev_sl, ↓Mn.ev_rev, ↓Mn.ev_call, ↓Mn.ev_bi, ↓Mn.ev_isi, ↓Mn.ev_bm, ↓Mn.ev_lc, ↓Mn.ev_nil, ↓Mn.ev_cons, ↓Mn.ev_o0, ↓Mn.ev_o1, ↓Mn.ev_iexp, ↓Mn.ev_irng1, ↓Mn.ev_irng2, ↓Mn.ev_ienum, ↓Mn.ev_izip, ↓Mn.tcase_bl, ↓Mn.tcase_int, ↓Mn.tcase_non, ↓Mn.tcase_tup, ↓Mn.tcase_lst, ↓Mn.tcase_scr, ↓Mn.bin_add_c, ↓Mn.bin_sub_c, ↓Mn.neg_int_c, ↓Mn.cmp_lt_c, ↓Mn.cmp_le_c, ↓Mn.cmp_gt_c, ↓Mn.cmp_ge_c, ↓Mn.cmp_eqi_c, ↓Mn.cmp_nei_c, ↓Mn.itr_tup_c, ↓Mn.itr_lst_c, ↓Mn.itr_scr_c, ↓Mn.len_seq_c, ↓Mn.len_lst_c, ↓Mn.len_scr_c, ↓Mn.bi_abs_c, ↓Mn.ofO_some_c, ↓Mn.newT_0_c, ↓Mn.newL_0_c, ↓Mn.newT_1_c, ↓Mn.newL_1_c, ↓Mn.newT_2_c, ↓Mn.newL_2_c, ↓Mn.newT_3_c, ↓Mn.newL_3_c, ↓Mn.newT_4_c, ↓Mn.newL_4_c, ↓Mn.newT_5_c, ↓Mn.newL_5_c, ↓Mn.newT_6_c, ↓Mn.newL_6_c, ↓Mn.newT_7_c, ↓Mn.newL_7_c, ↓Mn.newT_8_c, ↓Mn.newL_8_c, ↓Mn.newT_9_c, ↓Mn.newL_9_c, ↓Mn.isi_non_int_c, ↓Mn.isi_non_bool_c, ↓Mn.isi_non_str_c, ↓Mn.isi_non_tuple_c, ↓Mn.isi_non_list_c, ↓Mn.isi_bl_int_c, ↓Mn.isi_bl_bool_c, ↓Mn.isi_bl_str_c, ↓Mn.isi_bl_tuple_c, ↓Mn.isi_bl_list_c, ↓Mn.isi_int_int_c, ↓Mn.isi_int_bool_c, ↓Mn.isi_int_str_c, ↓Mn.isi_int_tuple_c, ↓Mn.isi_int_list_c, ↓Mn.isi_str_int_c, ↓Mn.isi_str_bool_c, ↓Mn.isi_str_str_c, ↓Mn.isi_str_tuple_c, ↓Mn.isi_str_list_c, ↓Mn.isi_tup_int_c, ↓Mn.isi_tup_bool_c, ↓Mn.isi_tup_str_c, ↓Mn.isi_tup_tuple_c, ↓Mn.isi_tup_list_c, ↓Mn.isi_lst_int_c, ↓Mn.isi_lst_bool_c, ↓Mn.isi_lst_str_c, ↓Mn.isi_lst_tuple_c, ↓Mn.isi_lst_list_c, ↓Mn.ix_t0_c, ↓Mn.ix_t1_c, ↓Mn.ix_l0_c, ↓Mn.ix_l1_c, ↓Mn.wp_nx, ↓Mn.wp_rt, ↓Mn.wp_exc, ↓Mn.wp_stuck, ↓Mn.wp_ite, ↓Mn.wpV_zero, ↓Mn.wpV_succ, ↓Mn.wpB_one, ↓Mn.wpB_2, ↓Mn.wpB_3, ↓Mn.wp_nil, ↓Mn.wp_cons, ↓Mn.wp_asg, ↓Mn.wp_put, ↓Mn.wp_asgT, ↓Mn.wp_tupS, ↓Mn.wp_ts0, ↓Mn.wp_tsV, ↓Mn.wp_tsS, ↓Mn.wp_par, ↓Mn.wp_expr, ↓Mn.wp_ret, ↓Mn.wp_if, ↓Mn.wp_for, ↓Mn.wp_while, ↓Mn.wp_rais, ↓Mn.wp_try, ↓Mn.hnd_cons, ↓Mn.enum_c, ↓Mn.enumL_c, ↓Mn.tuple_c, ↓Mn.tupleT_c, ↓Mn.fr_ix0, ↓Mn.fr_ix1, ↓Mn.eq_fr_c, ↓Mn.ne_fr_c, ↓Mn.ix_row, ↓Mn.len_row, ↓Mn.len_mdl, ↓Mn.len_los, ↓Mn.ix_mdl0, ↓Mn.isi_row_tuple, ↓Mn.cmp_is_c, ↓Mn.cmp_isnot_c, ↓Mn.cell_tup_c, ↓Mn.newL_nil_c, ↓Mn.slT_1, ↓Mn.slT_t1, ↓Mn.slT_t2, ↓Mn.slT_t4, ↓Mn.slT_l, ↓Mn.listT_c, ↓Mn.listL_c, ↓Mn.itr_rowD, ↓Mn.enum_rowD, ↓Mn.sl_rowD_1, ↓Mn.sl_rowD_t1, ↓Mn.sl_rowD_t2, ↓Mn.sl_rowD_t4, ↓Mn.sl_rowD_l, ↓Mn.list_rowD, ↓Mn.itr_mdl, ↓Mn.enum_mdl, ↓Mn.sl_mdl_1, ↓Mn.sl_mdl_t1, ↓Mn.sl_mdl_t2, ↓Mn.sl_mdl_t4, ↓Mn.sl_mdl_l, ↓Mn.list_mdl, ↓Mn.itr_losD, ↓Mn.enum_losD, ↓Mn.sl_losD_1, ↓Mn.sl_losD_t1, ↓Mn.sl_losD_t2, ↓Mn.sl_losD_t4, ↓Mn.sl_losD_l, ↓Mn.list_losD, ↓Mn.itr_intsD, ↓Mn.enum_intsD, ↓Mn.sl_intsD_1, ↓Mn.sl_intsD_t1, ↓Mn.sl_intsD_t2, ↓Mn.sl_intsD_t4, ↓Mn.sl_intsD_l, ↓Mn.list_intsD, ↓Mn.len_intsD, ↓Mn.itr_natsD, ↓Mn.enum_natsD, ↓Mn.sl_natsD_1, ↓Mn.sl_natsD_t1, ↓Mn.sl_natsD_t2, ↓Mn.sl_natsD_t4, ↓Mn.sl_natsD_l, ↓Mn.list_natsD, ↓Mn.len_natsD, ↓Mn.nebl_c, ↓Mn.nes_InvalidModel, ↓Mn.eqs_InvalidModel, ↓Mn.nes_InvalidLosses, ↓Mn.eqs_InvalidLosses, ↓Mn.nes_InvalidRule, ↓Mn.eqs_InvalidRule, ↓Mn.nes_InvalidMixed, ↓Mn.eqs_InvalidMixed, ↓Mn.nes_InvalidBelief, ↓Mn.eqs_InvalidBelief, ↓Mn.nes_InvalidObservation, ↓Mn.eqs_InvalidObservation, ↓Mn.nes_InvalidGrouping, ↓Mn.eqs_InvalidGrouping, ↓Mn.nes_NotSufficient, ↓Mn.eqs_NotSufficient, ↓Mn.nes_InvalidNumbers, ↓Mn.eqs_InvalidNumbers, ↓Mn.nes_InvalidEstimate, ↓Mn.eqs_InvalidEstimate, ↓Mn.nes_InvalidState, ↓Mn.eqs_InvalidState, ↓Mn.nes_ZeroChance, ↓Mn.eqs_ZeroChance, ↓Mn.nes_NoEstimate, ↓Mn.eqs_NoEstimate, ↓Mn.nes_UnlikeStates, ↓Mn.eqs_UnlikeStates, ↓Mn.nes_TooLarge, ↓Mn.eqs_TooLarge, ↓Mn.nes_InvalidTable, ↓Mn.eqs_InvalidTable, ↓Mn.nes_Impossible, ↓Mn.eqs_Impossible, ↓Mn.nes_NothingToUndo, ↓Mn.eqs_NothingToUndo, ↓Mn.nes_ParseError, ↓Mn.eqs_ParseError, ↓Mn.ck_c, Mn.truD_bl, Mn.truD_int, Mn.truD_non, Mn.truD_tup, Mn.truD_lst, Mn.truD_scr, Mn.tru1_bl, Mn.tru1_int, Mn.shaped_int, Mn.eqv_int, Mn.sq_tup, Mn.sq_lst, Mn.sq_scr, Mn.lst_lst, Mn.at_0, Mn.at_1, Mn.take_self, Mn.take_app, Mn.isNon_non, Mn.isNon_bl, Mn.isNon_int, Mn.isNon_str, Mn.isNon_tup, Mn.isNon_lst, Mn.isNon_fr, Mn.isNon_row, Mn.isNon_mdl, Mn.cell_at, Mn.cell_lst, Mn.intO_n, Mn.intO_i, Mn.isSome_s, Mn.isNon_intsD, Mn.isNon_natsD, Mn.nl_mdl, Mn.nl_row, Mn.nl_los, Mn.nl_ints, Mn.wd_mdl, Mn.orv_ok, Mn.frOf_fr, Mn.rowOf_row, Mn.mdlOf_mdl, Mn.intsOf_ints, Mn.losOf_los, List.getElem?_cons_zero, List.getElem?_cons_succ, ↓reduceIte, List.map_cons, List.map_nil, List.replicate, List.append, List.cons_append, List.nil_append, List.length_cons, List.length_nil, Nat.reduceSub, Nat.reduceAdd, Nat.sub_self, Bool.false_eq_true, Bool.not_true, Bool.not_false, decide_true, decide_false, List.length_map, bne_self_eq_false, and_true, true_and, and_self, $args,*])
  | `(tactic| simp_arith only) => `(tactic| simp only [↓Mn.tcaseB_bl, ↓Mn.cps_ok, ↓Mn.cps_exc, ↓Mn.cps_stuck, ↓Mn.bind_is, ↓Mn.st_is, ↓Mn.only_is, ↓Mn.cps_cps, ↓Mn.bind_cps, ↓Mn.tcase_some, ↓Mn.cps_ite, ↓Mn.rdV_some, ↓Mn.ev_var, ↓Mn.ev_frz, ↓Mn.ev_cst, ↓Mn.ev_tup, ↓Mn.ev_lst, ↓Mn.ev_bin, ↓Mn.ev_neg, ↓Mn.ev_not, ↓Mn.ev_cmp, ↓Mn.ev_chain, ↓Mn.ev_ite, ↓Mn.ev_and, ↓Mn.ev_or, ↓Mn.ev_a1, ↓Mn.ev_r1, ↓Mn.ev_a2, ↓Mn.ev_r2, ↓Mn.ev_ix, ↓Mn.ev_sl, ↓Mn.ev_rev, ↓Mn.ev_call, ↓Mn.ev_bi, ↓Mn.ev_isi, ↓Mn.ev_bm, ↓Mn.ev_lc, ↓Mn.ev_nil, ↓Mn.ev_cons, ↓Mn.ev_o0, ↓Mn.ev_o1, ↓Mn.ev_iexp, ↓Mn.ev_irng1, ↓Mn.ev_irng2, ↓Mn.ev_ienum, ↓Mn.ev_izip, ↓Mn.tcase_bl, ↓Mn.tcase_int, ↓Mn.tcase_non, ↓Mn.tcase_tup, ↓Mn.tcase_lst, ↓Mn.tcase_scr, ↓Mn.bin_add_c, ↓Mn.bin_sub_c, ↓Mn.neg_int_c, ↓Mn.cmp_lt_c, ↓Mn.cmp_le_c, ↓Mn.cmp_gt_c, ↓Mn.cmp_ge_c, ↓Mn.cmp_eqi_c, ↓Mn.cmp_nei_c, ↓Mn.itr_tup_c, ↓Mn.itr_lst_c, ↓Mn.itr_scr_c, ↓Mn.len_seq_c, ↓Mn.len_lst_c, ↓Mn.len_scr_c, ↓Mn.bi_abs_c, ↓Mn.ofO_some_c, ↓Mn.newT_0_c, ↓Mn.newL_0_c, ↓Mn.newT_1_c, ↓Mn.newL_1_c, ↓Mn.newT_2_c, ↓Mn.newL_2_c, ↓Mn.newT_3_c, ↓Mn.newL_3_c, ↓Mn.newT_4_c, ↓Mn.newL_4_c, ↓Mn.newT_5_c, ↓Mn.newL_5_c, ↓Mn.newT_6_c, ↓Mn.newL_6_c, ↓Mn.newT_7_c, ↓Mn.newL_7_c, ↓Mn.newT_8_c, ↓Mn.newL_8_c, ↓Mn.newT_9_c, ↓Mn.newL_9_c, ↓Mn.isi_non_int_c, ↓Mn.isi_non_bool_c, ↓Mn.isi_non_str_c, ↓Mn.isi_non_tuple_c, ↓Mn.isi_non_list_c, ↓Mn.isi_bl_int_c, ↓Mn.isi_bl_bool_c, ↓Mn.isi_bl_str_c, ↓Mn.isi_bl_tuple_c, ↓Mn.isi_bl_list_c, ↓Mn.isi_int_int_c, ↓Mn.isi_int_bool_c, ↓Mn.isi_int_str_c, ↓Mn.isi_int_tuple_c, ↓Mn.isi_int_list_c, ↓Mn.isi_str_int_c, ↓Mn.isi_str_bool_c, ↓Mn.isi_str_str_c, ↓Mn.isi_str_tuple_c, ↓Mn.isi_str_list_c, ↓Mn.isi_tup_int_c, ↓Mn.isi_tup_bool_c, ↓Mn.isi_tup_str_c, ↓Mn.isi_tup_tuple_c, ↓Mn.isi_tup_list_c, ↓Mn.isi_lst_int_c, ↓Mn.isi_lst_bool_c, ↓Mn.isi_lst_str_c, ↓Mn.isi_lst_tuple_c, ↓Mn.isi_lst_list_c, ↓Mn.ix_t0_c, ↓Mn.ix_t1_c, ↓Mn.ix_l0_c, ↓Mn.ix_l1_c, ↓Mn.wp_nx, ↓Mn.wp_rt, ↓Mn.wp_exc, ↓Mn.wp_stuck, ↓Mn.wp_ite, ↓Mn.wpV_zero, ↓Mn.wpV_succ, ↓Mn.wpB_one, ↓Mn.wpB_2, ↓Mn.wpB_3, ↓Mn.wp_nil, ↓Mn.wp_cons, ↓Mn.wp_asg, ↓Mn.wp_put, ↓Mn.wp_asgT, ↓Mn.wp_tupS, ↓Mn.wp_ts0, ↓Mn.wp_tsV, ↓Mn.wp_tsS, ↓Mn.wp_par, ↓Mn.wp_expr, ↓Mn.wp_ret, ↓Mn.wp_if, ↓Mn.wp_for, ↓Mn.wp_while, ↓Mn.wp_rais, ↓Mn.wp_try, ↓Mn.hnd_cons, ↓Mn.enum_c, ↓Mn.enumL_c, ↓Mn.tuple_c, ↓Mn.tupleT_c, ↓Mn.fr_ix0, ↓Mn.fr_ix1, ↓Mn.eq_fr_c, ↓Mn.ne_fr_c, ↓Mn.ix_row, ↓Mn.len_row, ↓Mn.len_mdl, ↓Mn.len_los, ↓Mn.ix_mdl0, ↓Mn.isi_row_tuple, ↓Mn.cmp_is_c, ↓Mn.cmp_isnot_c, ↓Mn.cell_tup_c, ↓Mn.newL_nil_c, ↓Mn.slT_1, ↓Mn.slT_t1, ↓Mn.slT_t2, ↓Mn.slT_t4, ↓Mn.slT_l, ↓Mn.listT_c, ↓Mn.listL_c, ↓Mn.itr_rowD, ↓Mn.enum_rowD, ↓Mn.sl_rowD_1, ↓Mn.sl_rowD_t1, ↓Mn.sl_rowD_t2, ↓Mn.sl_rowD_t4, ↓Mn.sl_rowD_l, ↓Mn.list_rowD, ↓Mn.itr_mdl, ↓Mn.enum_mdl, ↓Mn.sl_mdl_1, ↓Mn.sl_mdl_t1, ↓Mn.sl_mdl_t2, ↓Mn.sl_mdl_t4, ↓Mn.sl_mdl_l, ↓Mn.list_mdl, ↓Mn.itr_losD, ↓Mn.enum_losD, ↓Mn.sl_losD_1, ↓Mn.sl_losD_t1, ↓Mn.sl_losD_t2, ↓Mn.sl_losD_t4, ↓Mn.sl_losD_l, ↓Mn.list_losD, ↓Mn.itr_intsD, ↓Mn.enum_intsD, ↓Mn.sl_intsD_1, ↓Mn.sl_intsD_t1, ↓Mn.sl_intsD_t2, ↓Mn.sl_intsD_t4, ↓Mn.sl_intsD_l, ↓Mn.list_intsD, ↓Mn.len_intsD, ↓Mn.itr_natsD, ↓Mn.enum_natsD, ↓Mn.sl_natsD_1, ↓Mn.sl_natsD_t1, ↓Mn.sl_natsD_t2, ↓Mn.sl_natsD_t4, ↓Mn.sl_natsD_l, ↓Mn.list_natsD, ↓Mn.len_natsD, ↓Mn.nebl_c, ↓Mn.nes_InvalidModel, ↓Mn.eqs_InvalidModel, ↓Mn.nes_InvalidLosses, ↓Mn.eqs_InvalidLosses, ↓Mn.nes_InvalidRule, ↓Mn.eqs_InvalidRule, ↓Mn.nes_InvalidMixed, ↓Mn.eqs_InvalidMixed, ↓Mn.nes_InvalidBelief, ↓Mn.eqs_InvalidBelief, ↓Mn.nes_InvalidObservation, ↓Mn.eqs_InvalidObservation, ↓Mn.nes_InvalidGrouping, ↓Mn.eqs_InvalidGrouping, ↓Mn.nes_NotSufficient, ↓Mn.eqs_NotSufficient, ↓Mn.nes_InvalidNumbers, ↓Mn.eqs_InvalidNumbers, ↓Mn.nes_InvalidEstimate, ↓Mn.eqs_InvalidEstimate, ↓Mn.nes_InvalidState, ↓Mn.eqs_InvalidState, ↓Mn.nes_ZeroChance, ↓Mn.eqs_ZeroChance, ↓Mn.nes_NoEstimate, ↓Mn.eqs_NoEstimate, ↓Mn.nes_UnlikeStates, ↓Mn.eqs_UnlikeStates, ↓Mn.nes_TooLarge, ↓Mn.eqs_TooLarge, ↓Mn.nes_InvalidTable, ↓Mn.eqs_InvalidTable, ↓Mn.nes_Impossible, ↓Mn.eqs_Impossible, ↓Mn.nes_NothingToUndo, ↓Mn.eqs_NothingToUndo, ↓Mn.nes_ParseError, ↓Mn.eqs_ParseError, ↓Mn.ck_c, Mn.truD_bl, Mn.truD_int, Mn.truD_non, Mn.truD_tup, Mn.truD_lst, Mn.truD_scr, Mn.tru1_bl, Mn.tru1_int, Mn.shaped_int, Mn.eqv_int, Mn.sq_tup, Mn.sq_lst, Mn.sq_scr, Mn.lst_lst, Mn.at_0, Mn.at_1, Mn.take_self, Mn.take_app, Mn.isNon_non, Mn.isNon_bl, Mn.isNon_int, Mn.isNon_str, Mn.isNon_tup, Mn.isNon_lst, Mn.isNon_fr, Mn.isNon_row, Mn.isNon_mdl, Mn.cell_at, Mn.cell_lst, Mn.intO_n, Mn.intO_i, Mn.isSome_s, Mn.isNon_intsD, Mn.isNon_natsD, Mn.nl_mdl, Mn.nl_row, Mn.nl_los, Mn.nl_ints, Mn.wd_mdl, Mn.orv_ok, Mn.frOf_fr, Mn.rowOf_row, Mn.mdlOf_mdl, Mn.intsOf_ints, Mn.losOf_los, List.getElem?_cons_zero, List.getElem?_cons_succ, ↓reduceIte, List.map_cons, List.map_nil, List.replicate, List.append, List.cons_append, List.nil_append, List.length_cons, List.length_nil, Nat.reduceSub, Nat.reduceAdd, Nat.sub_self, Bool.false_eq_true, Bool.not_true, Bool.not_false, decide_true, decide_false, List.length_map, bne_self_eq_false, and_true, true_and, and_self])
namespace Mn
open PySem
/-- the number of an observation -/
def IsO (w : Nat) (d : D) : Prop := ∃ j : Nat, d = .int (j : Nat) ∧ j < w
theorem isO_isI {w : Nat} {d : D} : IsI 0 ((w : Nat) - 1) d ↔ IsO w d := ⟨fun ⟨i, e, h0, h1⟩ => ⟨i.toNat, by rw [e]; congr 1; omega, by omega⟩, fun ⟨j, e, h⟩ => ⟨j, e, by omega, by omega⟩⟩
def sharesV (m : List (List Rat)) (l : List Rat) (j : Nat) : List Rat := (l.zip m).map fun p => p.1 * p.2.getD j 0
def afterV (m : List (List Rat)) (l : List Rat) (j : Nat) : Option (List Rat) := if (sharesV m l j).sum = 0 then none else some ((sharesV m l j).map fun q => q / (sharesV m l j).sum)
def optD : Option (List Rat) → D
  | none => .non
  | some l => rowD l
theorem optD_pure {o : Option (List Rat)} : D.pure (optD o) = true := by
  cases o with
  | none => rfl
  | some l => exact rowD_pure
theorem szs_getD {n j : Nat} {l : List Rat} (h : Szs n l) (hn : 1 ≤ n) : Sz n (l.getD j 0) := by
  rw [List.getD_eq_getElem?_getD]
  cases e : l[j]? with
  | none => exact sz_0 hn
  | some q => exact h q (List.mem_of_getElem? e)
theorem szs_shares {n a : Nat} {m : List (List Rat)} {l : List Rat} {j : Nat} (hl : Szs n l) (hm : ∀ r ∈ m, Szs a r) (ha : 1 ≤ a) : Szs (n + a) (sharesV m l j) := by
  intro q hq
  obtain ⟨⟨x, r⟩, hp, rfl⟩ := List.mem_map.mp hq
  exact sz_mul (hl x (List.of_mem_zip hp).1) (szs_getD (hm r (List.of_mem_zip hp).2) ha)
theorem shares_len {m : List (List Rat)} {l : List Rat} {j k : Nat} (h : l.length ≤ k ∨ m.length ≤ k) : (sharesV m l j).length ≤ k := by
  unfold sharesV
  rw [List.length_map, List.length_zip]
  omega
theorem ix_row_d {β : Type} {l : List Rat} {j : Nat} (h : j < l.length) {S : Store} {k : D → Store → β} {x : Nat → Store → β} {z : β} : (ofO ((l[j]?).map fr) S).cps k x z = k (fr (l.getD j 0)) S := by
  rw [List.getElem?_eq_getElem h, List.getD_eq_getElem?_getD, List.getElem?_eq_getElem h]
  exact ofO_c rfl
theorem num_zero {q : Rat} : decide (q.num = 0) = tv (q = 0) := by
  rw [tv_eq (b := decide (q.num = 0))]
  rw [decide_eq_true_eq, Rat.num_eq_zero]
theorem num_pos {q : Rat} : decide (0 < q.num) = tv (0 < q) := by
  rw [tv_eq (b := decide (0 < q.num))]
  rw [decide_eq_true_eq, Rat.lt_iff]
  simp
theorem num_neg {q : Rat} : decide (q.num < 0) = tv (q < 0) := by
  rw [tv_eq (b := decide (q.num < 0))]
  rw [decide_eq_true_eq, Rat.lt_iff]
  simp
theorem IsM.t {u : D} (h : IsM u) : ∃ us, u = .tup us ∧ nl u = us.length ∧ us.length ≤ 3 := by
  obtain ⟨m, rfl, v⟩ := h
  exact ⟨m.map rowD, rfl, by simp, by simpa using v.n3⟩
end Mn
namespace Lb
open PySem Mn
theorem is_valid_belief_c {b : Nat} {S : Store} {us : List D} {v : D} (hu : us.length ≤ 10) (hv : Pd v) : d_is_valid_belief b [.tup us, v] S = .ok (.bl (tv (IsCh us.length us.length v))) S := by
  refine run_eq rfl rfl ?_
  unfold b_is_valid_belief
  simp_arith only
  rw [are_chances_c (n := 200) hv (by omega) hu]
  simp_arith only
theorem require_belief_e {b : Nat} {S : Store} {us : List D} {v : D} (hu : us.length ≤ 10) (hv : Pd v) : d_require_belief b [.tup us, v] S = ck (IsCh us.length us.length v) 5 S (.ok .non S) := by
  refine run_val rfl ?_
  unfold b_require_belief
  simp_arith only [is_valid_belief_c hu hv]
  by_cases h : IsCh us.length us.length v
  · simp_arith only [tv_of h, ck_ok h]
  · simp_arith only [tv_no h, ck_no h]
theorem is_belief_e {b : Nat} {S : Store} {u v : D} (hu : Pd u) (hv : Pd v) : d_is_belief b [u, v] S = ck (IsM u) 1 S (.ok (.bl (tv (IsCh (nl u) (nl u) v))) S) := by
  refine run_val rfl ?_
  unfold b_is_belief
  simp_arith only [require_model_e hu]
  by_cases h : IsM u
  · obtain ⟨us, rfl, e1, e2⟩ := h.t
    simp_arith only [tv_of h, ck_ok h, is_valid_belief_c (show us.length ≤ 10 by omega) hv, e1]
    exact rfl
  · simp_arith only [tv_no h, ck_no h]
theorem require_observation_e {b : Nat} {S : Store} {v : D} {r0 : List Rat} {rest : List D} (hv : Pd v) : d_require_observation b [.tup (rowD r0 :: rest), v] S = ck (IsO r0.length v) 6 S (.ok .non S) := by
  refine run_val rfl ?_
  unfold b_require_observation
  simp_arith only
  rw [is_integer_c (n := 200) hv, tv_iff isO_isI]
  by_cases h : IsO r0.length v
  · simp_arith only [tv_of h, ck_ok h]
  · simp_arith only [tv_no h, ck_no h]
theorem require_all_e {b : Nat} {S : Store} {u v r : D} (hu : Pd u) (hv : Pd v) (hr : Pd r) : d_require_all b [u, v, r] S = ck (IsM u) 1 S (ck (IsCh (nl u) (nl u) v) 5 S (ck (IsO (nl (it0 u)) r) 6 S (.ok .non S))) := by
  refine run_val rfl ?_
  unfold b_require_all
  simp_arith only [require_model_e hu]
  by_cases h : IsM u
  · obtain ⟨r0, rest, rfl, e0, e2, e1, _⟩ := h.w
    have e3 := require_belief_e (b := S.length) (S := S) (us := rowD r0 :: rest) (v := v) (by simp; omega) hv
    rw [show (rowD r0 :: rest).length = nl (.tup (rowD r0 :: rest)) from rfl] at e3
    simp_arith only [tv_of h, ck_ok h, e3, e1]
    by_cases h2 : IsCh (nl (.tup (rowD r0 :: rest))) (nl (.tup (rowD r0 :: rest))) v
    · simp_arith only [tv_of h2, ck_ok h2, require_observation_e hr]
      by_cases h3 : IsO r0.length r
      · simp_arith only [tv_of h3, ck_ok h3]
      · simp_arith only [tv_no h3, ck_no h3]
    · simp_arith only [tv_no h2, ck_no h2]
  · simp_arith only [tv_no h, ck_no h]
theorem shares_c {b n a j : Nat} {S : Store} {m : List (List Rat)} {l : List Rat} (hl : Szs n l) (hm : ∀ r ∈ m, Szs a r ∧ j < r.length) (ha : 1 ≤ a) (hna : n + a ≤ 8000) (hlen : l.length ≤ 1000) : d_shares b [mdl m, rowD l, .int (j : Nat)] S = .ok (.lst ((sharesV m l j).map fr)) S := by
  refine run_eq rfl (by simp only [D.pure]; exact frs_pure) ?_
  unfold b_shares
  simp_arith only
  rw [zip_c sq_row sq_mdl]
  simp_arith only
  refine lc_map (fun p : Rat × List Rat => fr (p.1 * p.2.getD j 0)) rfl (by rw [List.length_zip]; exact line_le (by omega)) ?_ ?_
  · rintro ⟨q, r⟩ hqr
    have hq := (List.of_mem_zip hqr).1
    have hr := hm r (List.of_mem_zip hqr).2
    simp_arith only [wipe_2, List.set_cons_succ, List.set_cons_zero, ix_row_d hr.2, times_c (hl q hq) (szs_getD hr.1 ha) hna]
  · rw [newL_c (by simp only [List.length_map, List.length_zip]; exact line_le (by omega))]
    unfold sharesV
    rw [List.map_map]
    exact ⟨rfl, take_self⟩
theorem belief_after_c {b n a j : Nat} {S : Store} {m : List (List Rat)} {l : List Rat} (hl : Szs n l) (hm : ∀ r ∈ m, Szs a r ∧ j < r.length) (ha : 1 ≤ a) (hna : 4 * (n + a) ≤ 7900) (hm3 : m.length ≤ 3) (hlen : l.length ≤ 1000) : d_belief_after b [mdl m, rowD l, .int (j : Nat)] S = .ok (optD (afterV m l j)) S := by
  refine run_eq rfl optD_pure ?_
  unfold b_belief_after
  have hs := szs_shares (j := j) hl (fun r hr => (hm r hr).1) ha
  have hl3 : (sharesV m l j).length ≤ 3 := shares_len (.inr hm3)
  have hsum : Sz (3 * (n + a + 1) + 1) (sharesV m l j).sum := sz_sum' hs hl3
  simp_arith only [shares_c hl hm ha (by omega) hlen]
  rw [total_of_c (.inr rfl) hs (Nat.le_trans (Nat.mul_le_mul_right _ hl3) (by omega))]
  simp_arith only [num_zero]
  unfold afterV
  by_cases h0 : (sharesV m l j).sum = 0
  · rw [if_pos h0]
    simp_arith only [tv_of h0]
    exact rfl
  · rw [if_neg h0]
    simp_arith only [tv_no h0]
    refine lc_map (fun q : Rat => fr (q / (sharesV m l j).sum)) rfl (line_le (by omega)) ?_ ?_
    · intro q hq
      simp_arith only [wipe_1, List.set_cons_succ, List.set_cons_zero, over_c (hs q hq) hsum h0 (by omega)]
    · rw [newL_c (by rw [List.length_map]; exact line_le (by omega))]
      simp_arith only
      show _ = D.tup (((sharesV m l j).map fun q => q / (sharesV m l j).sum).map fr)
      rw [List.map_map]
      exact rfl
theorem chance_e {b : Nat} {S : Store} {u v r : D} (hu : Pd u) (hv : Pd v) (hr : Pd r) : d_chance b [u, v, r] S = ck (IsM u) 1 S (ck (IsCh (nl u) (nl u) v) 5 S (ck (IsO (nl (it0 u)) r) 6 S (.ok (fr (sharesV (mdlOf u) (rowOf v) (intOf r).toNat).sum) S))) := by
  refine run_val rfl ?_
  unfold b_chance
  simp_arith only [require_all_e hu hv hr]
  by_cases h : IsM u
  · by_cases h2 : IsCh (nl u) (nl u) v
    · by_cases h3 : IsO (nl (it0 u)) r
      · simp_arith only [tv_of h, tv_of h2, tv_of h3, ck_ok h, ck_ok h2, ck_ok h3]
        obtain ⟨m, rfl, vm⟩ := h
        obtain ⟨l, rfl, l1, l2, _⟩ := h2
        obtain ⟨j, rfl, hj⟩ := h3
        rw [wd_mdl] at hj
        rw [nl_mdl] at l1 l2
        have hn3 := vm.n3
        have hs : Szs 400 (sharesV m l j) := szs_shares (n := 200) (a := 200) (row_pb hv).2 (mdl_pb hu).2 (by omega)
        have hl3 : (sharesV m l j).length ≤ 3 := shares_len (.inr hn3)
        rw [shares_c (n := 200) (a := 200) (row_pb hv).2 (fun r hr => ⟨(mdl_pb hu).2 r hr, by rw [vm.w r hr]; exact hj⟩) (by omega) (by omega) (by omega)]
        simp_arith only
        rw [total_of_c (.inr rfl) hs (Nat.le_trans (Nat.mul_le_mul_right _ hl3) (by omega))]
        simp_arith only [mdlOf_mdl, rowOf_row, intOf, Int.toNat_natCast]
        exact rfl
      · simp_arith only [tv_of h, tv_of h2, tv_no h3, ck_ok h, ck_ok h2, ck_no h3]
    · simp_arith only [tv_of h, tv_no h2, ck_ok h, ck_no h2]
  · simp_arith only [tv_no h, ck_no h]
theorem after_e {b : Nat} {S : Store} {u v r : D} (hu : Pd u) (hv : Pd v) (hr : Pd r) : d_after b [u, v, r] S = ck (IsM u) 1 S (ck (IsCh (nl u) (nl u) v) 5 S (ck (IsO (nl (it0 u)) r) 6 S (.ok (optD (afterV (mdlOf u) (rowOf v) (intOf r).toNat)) S))) := by
  refine run_val rfl ?_
  unfold b_after
  simp_arith only [require_all_e hu hv hr]
  by_cases h : IsM u
  · by_cases h2 : IsCh (nl u) (nl u) v
    · by_cases h3 : IsO (nl (it0 u)) r
      · simp_arith only [tv_of h, tv_of h2, tv_of h3, ck_ok h, ck_ok h2, ck_ok h3]
        obtain ⟨m, rfl, vm⟩ := h
        obtain ⟨l, rfl, l1, l2, _⟩ := h2
        obtain ⟨j, rfl, hj⟩ := h3
        rw [wd_mdl] at hj
        rw [nl_mdl] at l1 l2
        have hn3 := vm.n3
        rw [belief_after_c (n := 200) (a := 200) (row_pb hv).2 (fun r hr => ⟨(mdl_pb hu).2 r hr, by rw [vm.w r hr]; exact hj⟩) (by omega) (by omega) hn3 (by omega)]
        simp_arith only [mdlOf_mdl, rowOf_row, intOf, Int.toNat_natCast]
        exact optD_pure
      · simp_arith only [tv_of h, tv_of h2, tv_no h3, ck_ok h, ck_ok h2, ck_no h3]
    · simp_arith only [tv_of h, tv_no h2, ck_ok h, ck_no h2]
  · simp_arith only [tv_no h, ck_no h]
end Lb

/-! Plain: sums over ranges. -/
namespace Mn
def sumR (n : Nat) (f : Nat → Rat) : Rat := ((List.range n).map f).sum
theorem sumR_0 {f : Nat → Rat} : sumR 0 f = 0 := rfl
theorem sumR_s {n : Nat} {f : Nat → Rat} : sumR (n + 1) f = sumR n f + f n := by
  unfold sumR
  rw [List.range_succ, List.map_append, List.map_cons, List.map_nil, sum_app]
theorem sumR_congr {n : Nat} {f g : Nat → Rat} (h : ∀ i, i < n → f i = g i) : sumR n f = sumR n g := by
  induction n with
  | zero => rfl
  | succ n ih => rw [sumR_s, sumR_s, ih fun i hi => h i (by omega), h n (by omega)]
theorem sumR_add {n : Nat} {f g : Nat → Rat} : sumR n (fun i => f i + g i) = sumR n f + sumR n g := by
  induction n with
  | zero => simp [sumR_0, Rat.add_zero]
  | succ n ih => rw [sumR_s, sumR_s, sumR_s, ih]; grind
theorem sumR_mul {n : Nat} {c : Rat} {f : Nat → Rat} : sumR n (fun i => c * f i) = c * sumR n f := by
  induction n with
  | zero => simp [sumR_0]
  | succ n ih => rw [sumR_s, sumR_s, ih]; grind
theorem sumR_mul' {n : Nat} {c : Rat} {f : Nat → Rat} : sumR n (fun i => f i * c) = sumR n f * c := by
  induction n with
  | zero => simp [sumR_0]
  | succ n ih => rw [sumR_s, sumR_s, ih]; grind
theorem sumR_zero {n : Nat} : sumR n (fun _ => 0) = 0 := by
  induction n with
  | zero => rfl
  | succ n ih => rw [sumR_s, ih]; grind
theorem sumR_comm {n k : Nat} {f : Nat → Nat → Rat} : sumR n (fun i => sumR k (f i)) = sumR k (fun j => sumR n (fun i => f i j)) := by
  induction n with
  | zero => simp only [sumR_0]; rw [sumR_zero]
  | succ n ih =>
    rw [sumR_s, ih, ← sumR_add]
    exact sumR_congr fun j _ => sumR_s.symm
theorem sumR_nonneg {n : Nat} {f : Nat → Rat} (h : ∀ i, i < n → 0 ≤ f i) : 0 ≤ sumR n f := by
  induction n with
  | zero => exact Rat.le_refl
  | succ n ih => rw [sumR_s]; exact Rat.add_nonneg (ih fun i hi => h i (by omega)) (h n (by omega))
theorem sumR_le {n : Nat} {f g : Nat → Rat} (h : ∀ i, i < n → f i ≤ g i) : sumR n f ≤ sumR n g := by
  induction n with
  | zero => exact Rat.le_refl
  | succ n ih =>
    have h1 := ih fun i hi => h i (by omega)
    have h2 := h n (by omega)
    rw [sumR_s, sumR_s]; grind
theorem getD_map {α β : Type} {l : List α} {i : Nat} {f : α → β} {d : α} {e : β} (h : i < l.length) : (l.map f).getD i e = f (l.getD i d) := by
  simp [List.getD_eq_getElem?_getD, h]
theorem list_sumR {l : List Rat} : l.sum = sumR l.length fun i => l.getD i 0 := by
  unfold sumR
  congr 1
  apply List.ext_getElem?
  intro i
  rw [List.getElem?_map]
  by_cases h : i < l.length
  · rw [List.getElem?_range h, List.getElem?_eq_getElem h]
    simp [List.getD_eq_getElem?_getD, h]
  · rw [List.getElem?_eq_none (by omega), List.getElem?_eq_none (by simp; omega)]
    rfl
theorem dot_sumR {n : Nat} {xs ys : List Rat} (hx : xs.length = n) (hy : ys.length = n) : dot xs ys = sumR n fun i => xs.getD i 0 * ys.getD i 0 := by
  unfold dot
  rw [list_sumR]
  have hl : (prods xs ys).length = n := by simp [prods, hx, hy]
  rw [hl]
  refine sumR_congr fun i hi => ?_
  have h1 : i < (xs.zip ys).length := by simp [hx, hy, hi]
  rw [prods, getD_map (d := (0, 0)) h1]
  simp [List.getD_eq_getElem?_getD, hx, hy, hi]
theorem dot_comm {xs ys : List Rat} : dot xs ys = dot ys xs := by
  have key : ∀ (xs ys : List Rat), prods xs ys = prods ys xs := by
    intro xs
    induction xs with
    | nil => intro ys; cases ys <;> rfl
    | cons x r ih =>
      intro ys
      cases ys with
      | nil => rfl
      | cons y s =>
        have := ih s
        unfold prods at this ⊢
        simp only [List.zip_cons_cons, List.map_cons, this, Rat.mul_comm]
  unfold dot
  rw [key]
theorem range_map {α : Type} {l : List α} {d : α} : l = (List.range l.length).map fun i => l.getD i d := by
  apply List.ext_getElem?
  intro i
  rw [List.getElem?_map]
  by_cases h : i < l.length
  · rw [List.getElem?_range h, List.getElem?_eq_getElem h]
    simp [List.getD_eq_getElem?_getD, h]
  · rw [List.getElem?_eq_none (by omega), List.getElem?_eq_none (by simp; omega)]
    rfl
theorem getD_range {α : Type} {n i : Nat} {f : Nat → α} {d : α} (h : i < n) : ((List.range n).map f).getD i d = f i := by
  simp [List.getD_eq_getElem?_getD, h]
/-- the sum with one term alone -/
theorem sumR_one {n k : Nat} {f : Nat → Rat} (hk : k < n) (h : ∀ i, i < n → i ≠ k → f i = 0) : sumR n f = f k := by
  induction n with
  | zero => omega
  | succ n ih =>
    rw [sumR_s]
    by_cases hkn : k = n
    · subst hkn
      rw [sumR_congr (g := fun _ => 0) fun i hi => h i (by omega) (by omega), sumR_zero, Rat.zero_add]
    · rw [ih (by omega) fun i hi hne => h i (by omega) hne, h n (by omega) (by omega), Rat.add_zero]
end Mn

/-! Plain: best actions, best rules. -/
namespace Mn
open PySem
def lossR (l : List Int) : List Rat := l.map fun i : Int => (i : Rat)
def sumsV (ls : List (List Int)) (w : List Rat) : List Rat := ls.map fun l => dot (lossR l) w
def minV (l : List Rat) : Rat := l.foldl (fun f q => if q < f then q else f) (l.headD 0)
noncomputable def argV (c : List Rat) : List Nat := (c.zipIdx.filter fun p => tv (p.1 = minV c)).map fun p => p.2
noncomputable def findV (ls : List (List Int)) (w : List Rat) : List Nat := argV (sumsV ls w)
noncomputable def bestV (m : List (List Rat)) (ls : List (List Int)) (b : List Rat) : List Nat := (List.range (wd m)).map fun j => (findV ls (sharesV m b j)).headD 0
theorem foldmin_le : ∀ {l : List Rat} {f : Rat}, l.foldl (fun f q => if q < f then q else f) f ≤ f ∧ ∀ q ∈ l, l.foldl (fun f q => if q < f then q else f) f ≤ q
  | [], f => ⟨Rat.le_refl, fun _ h => by simp at h⟩
  | a :: r, f => by
    simp only [List.foldl_cons]
    obtain ⟨h1, h2⟩ := foldmin_le (l := r) (f := if a < f then a else f)
    have h3 : (if a < f then a else f) ≤ f ∧ (if a < f then a else f) ≤ a := by
      split
      · rename_i h; exact ⟨Rat.le_of_lt h, Rat.le_refl⟩
      · rename_i h; exact ⟨Rat.le_refl, Rat.not_lt.mp h⟩
    refine ⟨Rat.le_trans h1 h3.1, fun q hq => ?_⟩
    rcases List.mem_cons.mp hq with rfl | hq
    · exact Rat.le_trans h1 h3.2
    · exact h2 q hq
theorem foldmin_mem : ∀ {l : List Rat} {f : Rat}, l.foldl (fun f q => if q < f then q else f) f = f ∨ l.foldl (fun f q => if q < f then q else f) f ∈ l
  | [], f => .inl rfl
  | a :: r, f => by
    simp only [List.foldl_cons]
    rcases foldmin_mem (l := r) (f := if a < f then a else f) with h | h
    · rw [h]
      split
      · exact .inr List.mem_cons_self
      · exact .inl rfl
    · exact .inr (List.mem_cons_of_mem _ h)
theorem minV_le {l : List Rat} {q : Rat} (h : q ∈ l) : minV l ≤ q := foldmin_le.2 q h
theorem minV_mem {l : List Rat} (h : l ≠ []) : minV l ∈ l := by
  cases l with
  | nil => exact absurd rfl h
  | cons a r =>
    unfold minV
    rcases foldmin_mem (l := a :: r) (f := (a :: r).headD 0) with h | h
    · rw [h]; exact List.mem_cons_self
    · exact h
theorem mem_argV {c : List Rat} {a : Nat} : a ∈ argV c ↔ a < c.length ∧ c.getD a 0 = minV c := by
  unfold argV
  rw [List.mem_map]
  constructor
  · rintro ⟨⟨q, i⟩, hp, rfl⟩
    obtain ⟨h1, h2⟩ := List.mem_filter.mp hp
    have h3 := List.mem_zipIdx h1
    simp at h3
    refine ⟨h3.1, ?_⟩
    have := tv_true.mp h2
    rw [List.getD_eq_getElem?_getD, List.getElem?_eq_getElem h3.1]
    simp only [Option.getD_some]
    rw [← h3.2]; exact this
  · rintro ⟨h1, h2⟩
    refine ⟨(c.getD a 0, a), List.mem_filter.mpr ⟨?_, tv_of h2⟩, rfl⟩
    rw [List.getD_eq_getElem?_getD, List.getElem?_eq_getElem h1]
    rw [List.mem_iff_getElem?]
    exact ⟨a, by rw [List.getElem?_zipIdx, List.getElem?_eq_getElem h1]; simp⟩
theorem argV_ne {c : List Rat} (h : c ≠ []) : argV c ≠ [] := by
  obtain ⟨i, hi, e⟩ := List.getElem_of_mem (minV_mem h)
  intro hn
  have : i ∈ argV c := mem_argV.mpr ⟨hi, by simp [List.getD_eq_getElem?_getD, hi, e]⟩
  rw [hn] at this
  simp at this
theorem argV_sorted {c : List Rat} : (argV c).Pairwise (· < ·) := by
  unfold argV
  rw [List.pairwise_map]
  refine List.Pairwise.filter _ ?_
  have key : ∀ (l : List Rat) (n : Nat), (l.zipIdx n).Pairwise fun a b => a.2 < b.2 := by
    intro l
    induction l with
    | nil => intro n; simp
    | cons a r ih =>
      intro n
      rw [List.zipIdx_cons, List.pairwise_cons]
      refine ⟨fun p hp => ?_, ih (n + 1)⟩
      have := List.le_snd_of_mem_zipIdx hp
      show n < p.2
      omega
  exact key c 0
theorem head_le {l : List Nat} (h : l.Pairwise (· < ·)) {a : Nat} (ha : a ∈ l) : l.headD 0 ≤ a := by
  cases l with
  | nil => simp at ha
  | cons b r =>
    rcases List.mem_cons.mp ha with rfl | ha
    · exact Nat.le_refl _
    · exact Nat.le_of_lt ((List.pairwise_cons.mp h).1 a ha)
/-- the first of the least -/
def FMin {α : Type} (L : List α) (f : α → Rat) (x : α) : Prop := ∃ pre post, L = pre ++ x :: post ∧ (∀ y ∈ pre, f x < f y) ∧ ∀ y ∈ post, f x ≤ f y
theorem argV_first {c : List Rat} (h : c ≠ []) : FMin (List.range c.length) (fun a => c.getD a 0) ((argV c).headD 0) := by
  have hne := argV_ne h
  obtain ⟨a, r, e⟩ : ∃ a r, argV c = a :: r := by
    cases h' : argV c with
    | nil => exact absurd h' hne
    | cons a r => exact ⟨a, r, rfl⟩
  have ha : a ∈ argV c := by rw [e]; exact List.mem_cons_self
  have hh : (argV c).headD 0 = a := by rw [e]; rfl
  obtain ⟨h1, h2⟩ := mem_argV.mp ha
  rw [hh]
  have hmem : ∀ i, i < c.length → c.getD i 0 ∈ c := fun i hi => getD_mem hi
  refine ⟨List.range a, (List.range (c.length - a - 1)).map (a + 1 + ·), ?_, fun y hy => ?_, fun y hy => ?_⟩
  · have h3 : c.length = a + (1 + (c.length - a - 1)) := by omega
    conv => lhs; rw [h3, List.range_add, List.range_add]
    simp [List.map_append, List.range_succ]
    intro i _
    omega
  · have hy : y < a := List.mem_range.mp hy
    show c.getD a 0 < c.getD y 0
    rw [h2]
    have h4 := minV_le (hmem y (by omega))
    refine Rat.lt_of_le_of_ne h4 fun e2 => ?_
    have : y ∈ argV c := mem_argV.mpr ⟨by omega, e2.symm⟩
    have := head_le argV_sorted this
    rw [hh] at this
    omega
  · obtain ⟨i, hi, rfl⟩ := List.mem_map.mp hy
    have hi : i < c.length - a - 1 := List.mem_range.mp hi
    show c.getD a 0 ≤ c.getD (a + 1 + i) 0
    rw [h2]
    exact minV_le (hmem _ (by omega))
theorem fmin_min {α : Type} {L : List α} {f : α → Rat} {x : α} (h : FMin L f x) : x ∈ L ∧ ∀ y ∈ L, f x ≤ f y := by
  obtain ⟨pre, post, rfl, h1, h2⟩ := h
  refine ⟨by simp, fun y hy => ?_⟩
  rcases List.mem_append.mp hy with hy | hy
  · exact Rat.le_of_lt (h1 y hy)
  · rcases List.mem_cons.mp hy with rfl | hy
    · exact Rat.le_refl
    · exact h2 y hy
theorem fmin_prod {α β γ : Type} {L : List α} {M : List β} {f : α → Rat} {g : β → Rat} {h : γ → Rat} {c : α → β → γ} {x : α} {y : β} (hx : FMin L f x) (hy : FMin M g y) (hc : ∀ a ∈ L, ∀ b ∈ M, h (c a b) = f a + g b) :
    FMin (L.flatMap fun a => M.map (c a)) h (c x y) := by
  obtain ⟨hxm, hxle⟩ := fmin_min hx
  obtain ⟨hym, hyle⟩ := fmin_min hy
  obtain ⟨p1, q1, rfl, a1, b1⟩ := hx
  obtain ⟨p2, q2, rfl, a2, b2⟩ := hy
  refine ⟨(p1.flatMap fun a => (p2 ++ y :: q2).map (c a)) ++ p2.map (c x), q2.map (c x) ++ (q1.flatMap fun a => (p2 ++ y :: q2).map (c a)), by simp, fun z hz => ?_, fun z hz => ?_⟩
  · rw [hc x hxm y hym]
    rcases List.mem_append.mp hz with hz | hz
    · obtain ⟨a, ha, hz⟩ := List.mem_flatMap.mp hz
      obtain ⟨b, hb, rfl⟩ := List.mem_map.mp hz
      rw [hc a (by simp [ha]) b hb]
      have h1 := a1 a ha
      have h2 := hyle b hb
      grind
    · obtain ⟨b, hb, rfl⟩ := List.mem_map.mp hz
      rw [hc x hxm b (by simp [hb])]
      have h2 := a2 b hb
      grind
  · rw [hc x hxm y hym]
    rcases List.mem_append.mp hz with hz | hz
    · obtain ⟨b, hb, rfl⟩ := List.mem_map.mp hz
      rw [hc x hxm b (by simp [hb])]
      have h2 := b2 b hb
      grind
    · obtain ⟨a, ha, hz⟩ := List.mem_flatMap.mp hz
      obtain ⟨b, hb, rfl⟩ := List.mem_map.mp hz
      rw [hc a (by simp [ha]) b hb]
      have h1 := b1 a ha
      have h2 := hyle b hb
      grind
/-- the rules, one after another -/
def rulesV (A : Nat) : Nat → List (List Nat)
  | 0 => [[]]
  | n + 1 => (rulesV A n).flatMap fun r => (List.range A).map fun a => r ++ [a]
theorem rulesV_mem {A : Nat} : ∀ {n : Nat} {r : List Nat}, r ∈ rulesV A n → r.length = n ∧ ∀ a ∈ r, a < A
  | 0, r, h => by
    simp [rulesV] at h
    subst h
    exact ⟨rfl, fun _ h => by simp at h⟩
  | n + 1, r, h => by
    obtain ⟨r', h1, h2⟩ := List.mem_flatMap.mp h
    obtain ⟨a, ha, rfl⟩ := List.mem_map.mp h2
    obtain ⟨h3, h4⟩ := rulesV_mem h1
    refine ⟨by simp [h3], fun b hb => ?_⟩
    rcases List.mem_append.mp hb with hb | hb
    · exact h4 b hb
    · rw [List.mem_singleton.mp hb]; exact List.mem_range.mp ha
/-- what a rule costs, observation by observation -/
def costR (c : Nat → List Rat) (r : List Nat) : Rat := sumR r.length fun j => (c j).getD (r.getD j 0) 0
theorem best_first {A : Nat} {c : Nat → List Rat} (hc : ∀ j, (c j).length = A) (hA : 0 < A) : ∀ n, FMin (rulesV A n) (costR c) ((List.range n).map fun j => (argV (c j)).headD 0)
  | 0 => ⟨[], [], rfl, fun _ h => by simp at h, fun _ h => by simp at h⟩
  | n + 1 => by
    have ih := best_first hc hA n
    have hcn : c n ≠ [] := fun h => by have := hc n; rw [h] at this; simp at this; omega
    have h1 := argV_first hcn
    rw [hc n] at h1
    rw [List.range_succ, List.map_append, List.map_cons, List.map_nil]
    refine fmin_prod (c := fun r a => r ++ [a]) ih h1 fun r hr a ha => ?_
    obtain ⟨hl, _⟩ := rulesV_mem hr
    unfold costR
    rw [List.length_append, hl]
    show sumR (n + 1) _ = _
    rw [sumR_s]
    congr 1
    · refine sumR_congr fun j hj => ?_
      congr 1
      simp [List.getD_eq_getElem?_getD, List.getElem?_append_left (show j < r.length by omega)]
    · congr 1
      simp [List.getD_eq_getElem?_getD, hl]
/-! what a mixed rule costs in the mean -/
theorem sumsV_len {ls : List (List Int)} {w : List Rat} : (sumsV ls w).length = ls.length := by simp [sumsV]
theorem shares_len' {m : List (List Rat)} {b : List Rat} {j : Nat} (h : b.length = m.length) : (sharesV m b j).length = m.length := by simp [sharesV, h]
theorem shares_getD {m : List (List Rat)} {b : List Rat} {i j : Nat} (h : b.length = m.length) (hi : i < m.length) : (sharesV m b j).getD i 0 = b.getD i 0 * (m.getD i []).getD j 0 := by
  have h1 : i < (b.zip m).length := by simp [h, hi]
  unfold sharesV
  rw [getD_map (d := (0, [])) h1]
  simp [List.getD_eq_getElem?_getD, h, hi]
theorem mean_is {s w A : Nat} {m : List (List Rat)} {ls : List (List Int)} {b : List Rat} {x : List (List Rat)} (hb : b.length = s) (hm : m.length = s) (hw : ∀ r ∈ m, r.length = w) (hls : ls.length = A) (hl : ∀ l ∈ ls, l.length = s) (hx : x.length = w) (hxa : ∀ r ∈ x, r.length = A) :
    dot b (risksV m ls x) = sumR w fun j => dot (sumsV ls (sharesV m b j)) (x.getD j []) := by
  rw [dot_sumR hb (by rw [risksV_len, hm])]
  have e1 : ∀ i, i < s → b.getD i 0 * (risksV m ls x).getD i 0 = sumR w fun j => sumR A fun a => (ls.getD a []).getD i 0 * (b.getD i 0 * (m.getD i []).getD j 0) * (x.getD j []).getD a 0 := by
    intro i hi
    unfold risksV
    rw [getD_range (by omega)]
    unfold riskV
    have hrow : (m.getD i []).length = w := hw _ (getD_mem (by omega))
    rw [dot_sumR hrow (by simp [hx]), ← sumR_mul]
    refine sumR_congr fun j hj => ?_
    rw [getD_map (d := []) (by omega)]
    have hxj : (x.getD j []).length = A := hxa _ (getD_mem (by omega))
    rw [dot_sumR (n := A) (by rw [col_len, hls]) hxj, ← Rat.mul_assoc, ← sumR_mul]
    refine sumR_congr fun a ha => ?_
    have : (col ls i).getD a 0 = ((ls.getD a []).getD i 0 : Int) := by
      unfold col
      rw [getD_map (d := []) (by omega)]
    rw [this]
    grind
  rw [sumR_congr e1, sumR_comm]
  refine sumR_congr fun j hj => ?_
  have hxj : (x.getD j []).length = A := hxa _ (getD_mem (by omega))
  rw [dot_sumR (n := A) (by rw [sumsV_len, hls]) hxj, sumR_comm]
  refine sumR_congr fun a ha => ?_
  rw [sumR_mul']
  congr 1
  unfold sumsV
  rw [getD_map (d := []) (by omega)]
  have hla : (ls.getD a []).length = s := hl _ (getD_mem (by omega))
  rw [dot_sumR (n := s) (by unfold lossR; rw [List.length_map]; exact hla) (by rw [shares_len' (by omega), hm])]
  refine sumR_congr fun i hi => ?_
  rw [shares_getD (by omega) (by omega)]
  congr 1
  have hlt : i < (ls.getD a []).length := by rw [hla]; exact hi
  exact (getD_map (f := fun i : Int => (i : Rat)) (d := 0) (e := 0) hlt).symm
theorem dot_unit {A a : Nat} {c : List Rat} (hc : c.length = A) (ha : a < A) : dot c (unit A a) = c.getD a 0 := by
  rw [dot_sumR hc unit_len, sumR_one ha]
  · unfold unit
    rw [getD_range ha]
    simp
  · intro i hi hne
    unfold unit
    rw [getD_range hi, if_neg hne]
    simp
theorem mean_rule {s w A : Nat} {m : List (List Rat)} {ls : List (List Int)} {b : List Rat} {rs : List Nat} (hb : b.length = s) (hm : m.length = s) (hw : ∀ r ∈ m, r.length = w) (hls : ls.length = A) (hl : ∀ l ∈ ls, l.length = s) (hx : rs.length = w) (hxa : ∀ a ∈ rs, a < A) :
    dot b (risksV m ls (rs.map (unit A))) = costR (fun j => sumsV ls (sharesV m b j)) rs := by
  rw [mean_is hb hm hw hls hl (by simp [hx]) (fun r hr => by
    obtain ⟨a, _, rfl⟩ := List.mem_map.mp hr
    exact unit_len)]
  unfold costR
  rw [hx]
  refine sumR_congr fun j hj => ?_
  rw [getD_map (d := 0) (by omega)]
  exact dot_unit (by rw [sumsV_len, hls]) (hxa _ (getD_mem (by omega)))
end Mn

/-! Plain: best actions and rules, as the program finds them. -/
local macro_rules
  | `(tactic| simp_arith only [$args,*]) => `(tactic| simp only [↓Mn.tcaseB_bl, ↓Mn.cps_ok, ↓Mn.cps_exc, ↓Mn.cps_stuck, ↓Mn.bind_is, ↓Mn.st_is, ↓Mn.only_is, ↓Mn.cps_cps, ↓Mn.bind_cps, ↓Mn.tcase_some, ↓Mn.cps_ite, ↓Mn.rdV_some, ↓Mn.ev_var, ↓Mn.ev_frz, ↓Mn.ev_cst, ↓Mn.ev_tup, ↓Mn.ev_lst, ↓Mn.ev_bin, ↓Mn.ev_neg, ↓Mn.ev_not, ↓Mn.ev_cmp, ↓Mn.ev_chain, ↓Mn.ev_ite, ↓Mn.ev_and, ↓Mn.ev_or, ↓Mn.ev_a1, ↓Mn.ev_r1, ↓Mn.ev_a2, ↓Mn.ev_r2, ↓Mn.ev_ix, ↓Mn.ev_sl, ↓Mn.ev_rev, ↓Mn.ev_call, ↓Mn.ev_bi, ↓Mn.ev_isi, ↓Mn.ev_bm, ↓Mn.ev_lc, ↓Mn.ev_nil, ↓Mn.ev_cons, ↓Mn.ev_o0, ↓Mn.ev_o1, ↓Mn.ev_iexp, ↓Mn.ev_irng1, ↓Mn.ev_irng2, ↓Mn.ev_ienum, ↓Mn.ev_izip, ↓Mn.tcase_bl, ↓Mn.tcase_int, ↓Mn.tcase_non, ↓Mn.tcase_tup, ↓Mn.tcase_lst, ↓Mn.tcase_scr, ↓Mn.bin_add_c, ↓Mn.bin_sub_c, ↓Mn.neg_int_c, ↓Mn.cmp_lt_c, ↓Mn.cmp_le_c, ↓Mn.cmp_gt_c, ↓Mn.cmp_ge_c, ↓Mn.cmp_eqi_c, ↓Mn.cmp_nei_c, ↓Mn.itr_tup_c, ↓Mn.itr_lst_c, ↓Mn.itr_scr_c, ↓Mn.len_seq_c, ↓Mn.len_lst_c, ↓Mn.len_scr_c, ↓Mn.bi_abs_c, ↓Mn.ofO_some_c, ↓Mn.newT_0_c, ↓Mn.newL_0_c, ↓Mn.newT_1_c, ↓Mn.newL_1_c, ↓Mn.newT_2_c, ↓Mn.newL_2_c, ↓Mn.newT_3_c, ↓Mn.newL_3_c, ↓Mn.newT_4_c, ↓Mn.newL_4_c, ↓Mn.newT_5_c, ↓Mn.newL_5_c, ↓Mn.newT_6_c, ↓Mn.newL_6_c, ↓Mn.newT_7_c, ↓Mn.newL_7_c, ↓Mn.newT_8_c, ↓Mn.newL_8_c, ↓Mn.newT_9_c, ↓Mn.newL_9_c, ↓Mn.isi_non_int_c, ↓Mn.isi_non_bool_c, ↓Mn.isi_non_str_c, ↓Mn.isi_non_tuple_c, ↓Mn.isi_non_list_c, ↓Mn.isi_bl_int_c, ↓Mn.isi_bl_bool_c, ↓Mn.isi_bl_str_c, ↓Mn.isi_bl_tuple_c, ↓Mn.isi_bl_list_c, ↓Mn.isi_int_int_c, ↓Mn.isi_int_bool_c, ↓Mn.isi_int_str_c, ↓Mn.isi_int_tuple_c, ↓Mn.isi_int_list_c, ↓Mn.isi_str_int_c, ↓Mn.isi_str_bool_c, ↓Mn.isi_str_str_c, ↓Mn.isi_str_tuple_c, ↓Mn.isi_str_list_c, ↓Mn.isi_tup_int_c, ↓Mn.isi_tup_bool_c, ↓Mn.isi_tup_str_c, ↓Mn.isi_tup_tuple_c, ↓Mn.isi_tup_list_c, ↓Mn.isi_lst_int_c, ↓Mn.isi_lst_bool_c, ↓Mn.isi_lst_str_c, ↓Mn.isi_lst_tuple_c, ↓Mn.isi_lst_list_c, ↓Mn.ix_t0_c, ↓Mn.ix_t1_c, ↓Mn.ix_l0_c, ↓Mn.ix_l1_c, ↓Mn.wp_nx, ↓Mn.wp_rt, ↓Mn.wp_exc, ↓Mn.wp_stuck, ↓Mn.wp_ite, ↓Mn.wpV_zero, ↓Mn.wpV_succ, ↓Mn.wpB_one, ↓Mn.wpB_2, ↓Mn.wpB_3, ↓Mn.wp_nil, ↓Mn.wp_cons, ↓Mn.wp_asg, ↓Mn.wp_put, ↓Mn.wp_asgT, ↓Mn.wp_tupS, ↓Mn.wp_ts0, ↓Mn.wp_tsV, ↓Mn.wp_tsS, ↓Mn.wp_par, ↓Mn.wp_expr, ↓Mn.wp_ret, ↓Mn.wp_if, ↓Mn.wp_for, ↓Mn.wp_while, ↓Mn.wp_rais, ↓Mn.wp_try, ↓Mn.hnd_cons, ↓Mn.enum_c, ↓Mn.enumL_c, ↓Mn.tuple_c, ↓Mn.tupleT_c, ↓Mn.fr_ix0, ↓Mn.fr_ix1, ↓Mn.eq_fr_c, ↓Mn.ne_fr_c, ↓Mn.ix_row, ↓Mn.len_row, ↓Mn.len_mdl, ↓Mn.len_los, ↓Mn.ix_mdl0, ↓Mn.isi_row_tuple, ↓Mn.cmp_is_c, ↓Mn.cmp_isnot_c, ↓Mn.cell_tup_c, ↓Mn.newL_nil_c, ↓Mn.slT_1, ↓Mn.slT_t1, ↓Mn.slT_t2, ↓Mn.slT_t4, ↓Mn.slT_l, ↓Mn.listT_c, ↓Mn.listL_c, ↓Mn.itr_rowD, ↓Mn.enum_rowD, ↓Mn.sl_rowD_1, ↓Mn.sl_rowD_t1, ↓Mn.sl_rowD_t2, ↓Mn.sl_rowD_t4, ↓Mn.sl_rowD_l, ↓Mn.list_rowD, ↓Mn.itr_mdl, ↓Mn.enum_mdl, ↓Mn.sl_mdl_1, ↓Mn.sl_mdl_t1, ↓Mn.sl_mdl_t2, ↓Mn.sl_mdl_t4, ↓Mn.sl_mdl_l, ↓Mn.list_mdl, ↓Mn.itr_losD, ↓Mn.enum_losD, ↓Mn.sl_losD_1, ↓Mn.sl_losD_t1, ↓Mn.sl_losD_t2, ↓Mn.sl_losD_t4, ↓Mn.sl_losD_l, ↓Mn.list_losD, ↓Mn.itr_intsD, ↓Mn.enum_intsD, ↓Mn.sl_intsD_1, ↓Mn.sl_intsD_t1, ↓Mn.sl_intsD_t2, ↓Mn.sl_intsD_t4, ↓Mn.sl_intsD_l, ↓Mn.list_intsD, ↓Mn.len_intsD, ↓Mn.itr_natsD, ↓Mn.enum_natsD, ↓Mn.sl_natsD_1, ↓Mn.sl_natsD_t1, ↓Mn.sl_natsD_t2, ↓Mn.sl_natsD_t4, ↓Mn.sl_natsD_l, ↓Mn.list_natsD, ↓Mn.len_natsD, ↓Mn.nebl_c, ↓Mn.nes_InvalidModel, ↓Mn.eqs_InvalidModel, ↓Mn.nes_InvalidLosses, ↓Mn.eqs_InvalidLosses, ↓Mn.nes_InvalidRule, ↓Mn.eqs_InvalidRule, ↓Mn.nes_InvalidMixed, ↓Mn.eqs_InvalidMixed, ↓Mn.nes_InvalidBelief, ↓Mn.eqs_InvalidBelief, ↓Mn.nes_InvalidObservation, ↓Mn.eqs_InvalidObservation, ↓Mn.nes_InvalidGrouping, ↓Mn.eqs_InvalidGrouping, ↓Mn.nes_NotSufficient, ↓Mn.eqs_NotSufficient, ↓Mn.nes_InvalidNumbers, ↓Mn.eqs_InvalidNumbers, ↓Mn.nes_InvalidEstimate, ↓Mn.eqs_InvalidEstimate, ↓Mn.nes_InvalidState, ↓Mn.eqs_InvalidState, ↓Mn.nes_ZeroChance, ↓Mn.eqs_ZeroChance, ↓Mn.nes_NoEstimate, ↓Mn.eqs_NoEstimate, ↓Mn.nes_UnlikeStates, ↓Mn.eqs_UnlikeStates, ↓Mn.nes_TooLarge, ↓Mn.eqs_TooLarge, ↓Mn.nes_InvalidTable, ↓Mn.eqs_InvalidTable, ↓Mn.nes_Impossible, ↓Mn.eqs_Impossible, ↓Mn.nes_NothingToUndo, ↓Mn.eqs_NothingToUndo, ↓Mn.nes_ParseError, ↓Mn.eqs_ParseError, ↓Mn.ck_c, Mn.truD_bl, Mn.truD_int, Mn.truD_non, Mn.truD_tup, Mn.truD_lst, Mn.truD_scr, Mn.tru1_bl, Mn.tru1_int, Mn.shaped_int, Mn.eqv_int, Mn.sq_tup, Mn.sq_lst, Mn.sq_scr, Mn.lst_lst, Mn.at_0, Mn.at_1, Mn.take_self, Mn.take_app, Mn.isNon_non, Mn.isNon_bl, Mn.isNon_int, Mn.isNon_str, Mn.isNon_tup, Mn.isNon_lst, Mn.isNon_fr, Mn.isNon_row, Mn.isNon_mdl, Mn.cell_at, Mn.cell_lst, Mn.intO_n, Mn.intO_i, Mn.isSome_s, Mn.isNon_intsD, Mn.isNon_natsD, Mn.nl_mdl, Mn.nl_row, Mn.nl_los, Mn.nl_ints, Mn.wd_mdl, Mn.orv_ok, Mn.frOf_fr, Mn.rowOf_row, Mn.mdlOf_mdl, Mn.intsOf_ints, Mn.losOf_los, List.getElem?_cons_zero, List.getElem?_cons_succ, ↓reduceIte, List.map_cons, List.map_nil, List.replicate, List.append, List.cons_append, List.nil_append, List.length_cons, List.length_nil, Nat.reduceSub, Nat.reduceAdd, Nat.sub_self, Bool.false_eq_true, Bool.not_true, Bool.not_false, decide_true, decide_false, List.length_map, bne_self_eq_false, and_true, true_and, and_self, $args,*])
  | `(tactic| simp_arith only) => `(tactic| simp only [↓Mn.tcaseB_bl, ↓Mn.cps_ok, ↓Mn.cps_exc, ↓Mn.cps_stuck, ↓Mn.bind_is, ↓Mn.st_is, ↓Mn.only_is, ↓Mn.cps_cps, ↓Mn.bind_cps, ↓Mn.tcase_some, ↓Mn.cps_ite, ↓Mn.rdV_some, ↓Mn.ev_var, ↓Mn.ev_frz, ↓Mn.ev_cst, ↓Mn.ev_tup, ↓Mn.ev_lst, ↓Mn.ev_bin, ↓Mn.ev_neg, ↓Mn.ev_not, ↓Mn.ev_cmp, ↓Mn.ev_chain, ↓Mn.ev_ite, ↓Mn.ev_and, ↓Mn.ev_or, ↓Mn.ev_a1, ↓Mn.ev_r1, ↓Mn.ev_a2, ↓Mn.ev_r2, ↓Mn.ev_ix, ↓Mn.ev_sl, ↓Mn.ev_rev, ↓Mn.ev_call, ↓Mn.ev_bi, ↓Mn.ev_isi, ↓Mn.ev_bm, ↓Mn.ev_lc, ↓Mn.ev_nil, ↓Mn.ev_cons, ↓Mn.ev_o0, ↓Mn.ev_o1, ↓Mn.ev_iexp, ↓Mn.ev_irng1, ↓Mn.ev_irng2, ↓Mn.ev_ienum, ↓Mn.ev_izip, ↓Mn.tcase_bl, ↓Mn.tcase_int, ↓Mn.tcase_non, ↓Mn.tcase_tup, ↓Mn.tcase_lst, ↓Mn.tcase_scr, ↓Mn.bin_add_c, ↓Mn.bin_sub_c, ↓Mn.neg_int_c, ↓Mn.cmp_lt_c, ↓Mn.cmp_le_c, ↓Mn.cmp_gt_c, ↓Mn.cmp_ge_c, ↓Mn.cmp_eqi_c, ↓Mn.cmp_nei_c, ↓Mn.itr_tup_c, ↓Mn.itr_lst_c, ↓Mn.itr_scr_c, ↓Mn.len_seq_c, ↓Mn.len_lst_c, ↓Mn.len_scr_c, ↓Mn.bi_abs_c, ↓Mn.ofO_some_c, ↓Mn.newT_0_c, ↓Mn.newL_0_c, ↓Mn.newT_1_c, ↓Mn.newL_1_c, ↓Mn.newT_2_c, ↓Mn.newL_2_c, ↓Mn.newT_3_c, ↓Mn.newL_3_c, ↓Mn.newT_4_c, ↓Mn.newL_4_c, ↓Mn.newT_5_c, ↓Mn.newL_5_c, ↓Mn.newT_6_c, ↓Mn.newL_6_c, ↓Mn.newT_7_c, ↓Mn.newL_7_c, ↓Mn.newT_8_c, ↓Mn.newL_8_c, ↓Mn.newT_9_c, ↓Mn.newL_9_c, ↓Mn.isi_non_int_c, ↓Mn.isi_non_bool_c, ↓Mn.isi_non_str_c, ↓Mn.isi_non_tuple_c, ↓Mn.isi_non_list_c, ↓Mn.isi_bl_int_c, ↓Mn.isi_bl_bool_c, ↓Mn.isi_bl_str_c, ↓Mn.isi_bl_tuple_c, ↓Mn.isi_bl_list_c, ↓Mn.isi_int_int_c, ↓Mn.isi_int_bool_c, ↓Mn.isi_int_str_c, ↓Mn.isi_int_tuple_c, ↓Mn.isi_int_list_c, ↓Mn.isi_str_int_c, ↓Mn.isi_str_bool_c, ↓Mn.isi_str_str_c, ↓Mn.isi_str_tuple_c, ↓Mn.isi_str_list_c, ↓Mn.isi_tup_int_c, ↓Mn.isi_tup_bool_c, ↓Mn.isi_tup_str_c, ↓Mn.isi_tup_tuple_c, ↓Mn.isi_tup_list_c, ↓Mn.isi_lst_int_c, ↓Mn.isi_lst_bool_c, ↓Mn.isi_lst_str_c, ↓Mn.isi_lst_tuple_c, ↓Mn.isi_lst_list_c, ↓Mn.ix_t0_c, ↓Mn.ix_t1_c, ↓Mn.ix_l0_c, ↓Mn.ix_l1_c, ↓Mn.wp_nx, ↓Mn.wp_rt, ↓Mn.wp_exc, ↓Mn.wp_stuck, ↓Mn.wp_ite, ↓Mn.wpV_zero, ↓Mn.wpV_succ, ↓Mn.wpB_one, ↓Mn.wpB_2, ↓Mn.wpB_3, ↓Mn.wp_nil, ↓Mn.wp_cons, ↓Mn.wp_asg, ↓Mn.wp_put, ↓Mn.wp_asgT, ↓Mn.wp_tupS, ↓Mn.wp_ts0, ↓Mn.wp_tsV, ↓Mn.wp_tsS, ↓Mn.wp_par, ↓Mn.wp_expr, ↓Mn.wp_ret, ↓Mn.wp_if, ↓Mn.wp_for, ↓Mn.wp_while, ↓Mn.wp_rais, ↓Mn.wp_try, ↓Mn.hnd_cons, ↓Mn.enum_c, ↓Mn.enumL_c, ↓Mn.tuple_c, ↓Mn.tupleT_c, ↓Mn.fr_ix0, ↓Mn.fr_ix1, ↓Mn.eq_fr_c, ↓Mn.ne_fr_c, ↓Mn.ix_row, ↓Mn.len_row, ↓Mn.len_mdl, ↓Mn.len_los, ↓Mn.ix_mdl0, ↓Mn.isi_row_tuple, ↓Mn.cmp_is_c, ↓Mn.cmp_isnot_c, ↓Mn.cell_tup_c, ↓Mn.newL_nil_c, ↓Mn.slT_1, ↓Mn.slT_t1, ↓Mn.slT_t2, ↓Mn.slT_t4, ↓Mn.slT_l, ↓Mn.listT_c, ↓Mn.listL_c, ↓Mn.itr_rowD, ↓Mn.enum_rowD, ↓Mn.sl_rowD_1, ↓Mn.sl_rowD_t1, ↓Mn.sl_rowD_t2, ↓Mn.sl_rowD_t4, ↓Mn.sl_rowD_l, ↓Mn.list_rowD, ↓Mn.itr_mdl, ↓Mn.enum_mdl, ↓Mn.sl_mdl_1, ↓Mn.sl_mdl_t1, ↓Mn.sl_mdl_t2, ↓Mn.sl_mdl_t4, ↓Mn.sl_mdl_l, ↓Mn.list_mdl, ↓Mn.itr_losD, ↓Mn.enum_losD, ↓Mn.sl_losD_1, ↓Mn.sl_losD_t1, ↓Mn.sl_losD_t2, ↓Mn.sl_losD_t4, ↓Mn.sl_losD_l, ↓Mn.list_losD, ↓Mn.itr_intsD, ↓Mn.enum_intsD, ↓Mn.sl_intsD_1, ↓Mn.sl_intsD_t1, ↓Mn.sl_intsD_t2, ↓Mn.sl_intsD_t4, ↓Mn.sl_intsD_l, ↓Mn.list_intsD, ↓Mn.len_intsD, ↓Mn.itr_natsD, ↓Mn.enum_natsD, ↓Mn.sl_natsD_1, ↓Mn.sl_natsD_t1, ↓Mn.sl_natsD_t2, ↓Mn.sl_natsD_t4, ↓Mn.sl_natsD_l, ↓Mn.list_natsD, ↓Mn.len_natsD, ↓Mn.nebl_c, ↓Mn.nes_InvalidModel, ↓Mn.eqs_InvalidModel, ↓Mn.nes_InvalidLosses, ↓Mn.eqs_InvalidLosses, ↓Mn.nes_InvalidRule, ↓Mn.eqs_InvalidRule, ↓Mn.nes_InvalidMixed, ↓Mn.eqs_InvalidMixed, ↓Mn.nes_InvalidBelief, ↓Mn.eqs_InvalidBelief, ↓Mn.nes_InvalidObservation, ↓Mn.eqs_InvalidObservation, ↓Mn.nes_InvalidGrouping, ↓Mn.eqs_InvalidGrouping, ↓Mn.nes_NotSufficient, ↓Mn.eqs_NotSufficient, ↓Mn.nes_InvalidNumbers, ↓Mn.eqs_InvalidNumbers, ↓Mn.nes_InvalidEstimate, ↓Mn.eqs_InvalidEstimate, ↓Mn.nes_InvalidState, ↓Mn.eqs_InvalidState, ↓Mn.nes_ZeroChance, ↓Mn.eqs_ZeroChance, ↓Mn.nes_NoEstimate, ↓Mn.eqs_NoEstimate, ↓Mn.nes_UnlikeStates, ↓Mn.eqs_UnlikeStates, ↓Mn.nes_TooLarge, ↓Mn.eqs_TooLarge, ↓Mn.nes_InvalidTable, ↓Mn.eqs_InvalidTable, ↓Mn.nes_Impossible, ↓Mn.eqs_Impossible, ↓Mn.nes_NothingToUndo, ↓Mn.eqs_NothingToUndo, ↓Mn.nes_ParseError, ↓Mn.eqs_ParseError, ↓Mn.ck_c, Mn.truD_bl, Mn.truD_int, Mn.truD_non, Mn.truD_tup, Mn.truD_lst, Mn.truD_scr, Mn.tru1_bl, Mn.tru1_int, Mn.shaped_int, Mn.eqv_int, Mn.sq_tup, Mn.sq_lst, Mn.sq_scr, Mn.lst_lst, Mn.at_0, Mn.at_1, Mn.take_self, Mn.take_app, Mn.isNon_non, Mn.isNon_bl, Mn.isNon_int, Mn.isNon_str, Mn.isNon_tup, Mn.isNon_lst, Mn.isNon_fr, Mn.isNon_row, Mn.isNon_mdl, Mn.cell_at, Mn.cell_lst, Mn.intO_n, Mn.intO_i, Mn.isSome_s, Mn.isNon_intsD, Mn.isNon_natsD, Mn.nl_mdl, Mn.nl_row, Mn.nl_los, Mn.nl_ints, Mn.wd_mdl, Mn.orv_ok, Mn.frOf_fr, Mn.rowOf_row, Mn.mdlOf_mdl, Mn.intsOf_ints, Mn.losOf_los, List.getElem?_cons_zero, List.getElem?_cons_succ, ↓reduceIte, List.map_cons, List.map_nil, List.replicate, List.append, List.cons_append, List.nil_append, List.length_cons, List.length_nil, Nat.reduceSub, Nat.reduceAdd, Nat.sub_self, Bool.false_eq_true, Bool.not_true, Bool.not_false, decide_true, decide_false, List.length_map, bne_self_eq_false, and_true, true_and, and_self])
namespace Mn
open PySem
/-- a list of numbers -/
def natsL (l : List Nat) : D := .lst (l.map fun a : Nat => D.int (a : Nat))
theorem natsL_pure {l : List Nat} : D.pure (natsL l) = true := by
  have := natsD_pure (l := l)
  simpa [natsD, natsL, D.pure] using this
theorem filt_len' {α : Type} {xs : List α} {p : α → Bool} {g : α → D} (h : xs.length ≤ 10000) : ((xs.filter p).map g).length ≤ line := by
  rw [List.length_map]
  exact Nat.le_trans (List.length_filter_le _ _) (line_le h)
theorem szs_lossR {l : List Int} (h : ∀ i ∈ l, Bt 7 i) : Szs 7 (lossR l) := by
  intro q hq
  obtain ⟨i, hi, rfl⟩ := List.mem_map.mp hq
  exact ⟨by rw [Rat.num_intCast]; exact h i hi, by rw [Rat.den_intCast]; unfold Bt; decide⟩
theorem szs_sums {n k : Nat} {ls : List (List Int)} {w : List Rat} (hb : ∀ l ∈ ls, ∀ i ∈ l, Bt 7 i) (hw : Szs n w) (hk : w.length ≤ k) : Szs (k * (7 + n + 1) + 1) (sumsV ls w) := by
  intro q hq
  obtain ⟨l, hl, rfl⟩ := List.mem_map.mp hq
  exact sz_dot (szs_lossR (hb l hl)) hw (.inr hk)
end Mn
namespace Lb
open PySem Mn
theorem least_of_c {b n : Nat} {S : Store} {u : D} {l : List Rat} (hu : SqD u (l.map fr)) (hl : l ≠ []) (hs : Szs n l) (hn : n ≤ 4000) : d_least_of b [u] S = .ok (fr (minV l)) S := by
  refine run_eq rfl fr_pure ?_
  unfold b_least_of
  obtain ⟨a, r, rfl⟩ : ∃ a r, l = a :: r := by
    cases l with
    | nil => exact absurd rfl hl
    | cons a r => exact ⟨a, r, rfl⟩
  have h0 : ∀ {S k x z}, (ixS u (.int 0) S).cps k x z = k (fr a) S := fun {S k x z} => by
    rcases hu with rfl | rfl
    · exact ix_t0_c (β := Prop)
    · exact ix_l0_c (β := Prop)
  simp_arith only [h0, itr_c hu]
  rw [← List.map_cons]
  refine for_wp (fun pre ρ S' => S' = S ∧ (∃ o, ρ = [some u, some (fr (pre.foldl (fun f q => if q < f then q else f) a)), o]) ∧ Sz n (pre.foldl (fun f q => if q < f then q else f) a)) (fun _ _ _ _ => rfl) ⟨rfl, ⟨none, rfl⟩, hs a List.mem_cons_self⟩ ?_ ?_
  · rintro pre c post e ρ S' ⟨rfl, ⟨o, rfl⟩, hsz⟩
    have hc := hs c (mem_mid e)
    simp_arith only [less_c hc hsz (show n + n ≤ 8000 by omega), List.foldl_append, List.foldl_cons, List.foldl_nil]
    by_cases h : c < pre.foldl (fun f q => if q < f then q else f) a
    · simp_arith only [h]
      exact ⟨⟨_, rfl⟩, hc⟩
    · simp_arith only [h]
      exact ⟨⟨_, rfl⟩, hsz⟩
  · rintro ρ S' ⟨rfl, ⟨o, rfl⟩, hsz⟩
    simp_arith only
    rfl
theorem find_actions_c {b n k : Nat} {S : Store} {u v : D} {ls : List (List Int)} {w : List Rat} (hv : SqD v (ls.map intsD)) (hu : SqD u (w.map fr)) (hls : ls ≠ []) (hl3 : ls.length ≤ 100) (hb : ∀ l ∈ ls, ∀ i ∈ l, Bt 7 i) (hll : ∀ l ∈ ls, l.length ≤ 100) (hw : Szs n w) (hk : w.length ≤ k) (hkn : k * (7 + n + 1) ≤ 3900) (hk1 : 1 ≤ k) (hk2 : k ≤ 100) :
    d_find_actions b [v, u] S = .ok (natsL (findV ls w)) S := by
  refine run_eq rfl natsL_pure ?_
  unfold b_find_actions
  have h7n : 7 + n ≤ 8000 := by
    have := Nat.mul_le_mul_right (7 + n + 1) hk1
    omega
  simp_arith only [itr_c hv]
  refine lc_map (fun l : List Int => fr (dot (lossR l) w)) rfl (line_le (by omega)) ?_ ?_
  · intro l hl
    simp_arith only [wipe_1, List.set_cons_succ, List.set_cons_zero]
    refine lc_map (fun i : Int => fr (i : Rat)) rfl (line_le (by have := hll l hl; omega)) ?_ ?_
    · intro i hi
      simp_arith only [wipe_1, List.set_cons_succ, List.set_cons_zero, whole_c]
    · rw [show l.map (fun i : Int => fr (i : Rat)) = (lossR l).map fr by unfold lossR; rw [List.map_map]; rfl]
      rw [newL_c (by have := hll l hl; simp [lossR]; exact line_le (by omega))]
      rw [product_sum_c (.inr rfl) hu (szs_lossR (hb l hl)) hw (.inr hk) (by omega) (by omega) h7n]
      simp_arith only
  · rw [show ls.map (fun l : List Int => fr (dot (lossR l) w)) = (sumsV ls w).map fr by unfold sumsV; rw [List.map_map]; rfl]
    rw [newL_c (by rw [List.length_map, sumsV_len]; exact line_le (by omega))]
    simp_arith only
    have hs := szs_sums hb hw hk
    have hne : sumsV ls w ≠ [] := fun h => hls (by simpa [sumsV] using h)
    rw [least_of_c (.inr rfl) hne hs (by omega)]
    simp_arith only
    refine lc_if (fun p : Rat × Nat => tv (p.1 = minV (sumsV ls w))) (fun p => D.int (p.2 : Nat)) rfl (by simp [sumsV]; exact line_le (by omega)) ?_ ?_
    · rintro ⟨q, i⟩ hp
      simp_arith only [wipe_2, List.set_cons_succ, List.set_cons_zero]
      by_cases h : q = minV (sumsV ls w)
      · simp_arith only [tv_of h]
      · simp_arith only [tv_no h]
    · rw [newL_c (filt_len' (by simp [sumsV]; omega))]
      have : ((sumsV ls w).zipIdx.filter fun p : Rat × Nat => tv (p.1 = minV (sumsV ls w))).map (fun p => D.int (p.2 : Nat)) = (findV ls w).map fun a : Nat => D.int (a : Nat) := by
        unfold findV argV
        rw [List.map_map]
        rfl
      rw [this]
      exact ⟨rfl, take_self⟩
end Lb

/-! Plain: best actions, mean risks, best rules, with what is refused. -/
local macro_rules
  | `(tactic| simp_arith only [$args,*]) => `(tactic| simp only [↓Mn.tcaseB_bl, ↓Mn.cps_ok, ↓Mn.cps_exc, ↓Mn.cps_stuck, ↓Mn.bind_is, ↓Mn.st_is, ↓Mn.only_is, ↓Mn.cps_cps, ↓Mn.bind_cps, ↓Mn.tcase_some, ↓Mn.cps_ite, ↓Mn.rdV_some, ↓Mn.ev_var, ↓Mn.ev_frz, ↓Mn.ev_cst, ↓Mn.ev_tup, ↓Mn.ev_lst, ↓Mn.ev_bin, ↓Mn.ev_neg, ↓Mn.ev_not, ↓Mn.ev_cmp, ↓Mn.ev_chain, ↓Mn.ev_ite, ↓Mn.ev_and, ↓Mn.ev_or, ↓Mn.ev_a1, ↓Mn.ev_r1, ↓Mn.ev_a2, ↓Mn.ev_r2, ↓Mn.ev_ix, ↓Mn.ev_sl, ↓Mn.ev_rev, ↓Mn.ev_call, ↓Mn.ev_bi, ↓Mn.ev_isi, ↓Mn.ev_bm, ↓Mn.ev_lc, ↓Mn.ev_nil, ↓Mn.ev_cons, ↓Mn.ev_o0, ↓Mn.ev_o1, ↓Mn.ev_iexp, ↓Mn.ev_irng1, ↓Mn.ev_irng2, ↓Mn.ev_ienum, ↓Mn.ev_izip, ↓Mn.tcase_bl, ↓Mn.tcase_int, ↓Mn.tcase_non, ↓Mn.tcase_tup, ↓Mn.tcase_lst, ↓Mn.tcase_scr, ↓Mn.bin_add_c, ↓Mn.bin_sub_c, ↓Mn.neg_int_c, ↓Mn.cmp_lt_c, ↓Mn.cmp_le_c, ↓Mn.cmp_gt_c, ↓Mn.cmp_ge_c, ↓Mn.cmp_eqi_c, ↓Mn.cmp_nei_c, ↓Mn.itr_tup_c, ↓Mn.itr_lst_c, ↓Mn.itr_scr_c, ↓Mn.len_seq_c, ↓Mn.len_lst_c, ↓Mn.len_scr_c, ↓Mn.bi_abs_c, ↓Mn.ofO_some_c, ↓Mn.newT_0_c, ↓Mn.newL_0_c, ↓Mn.newT_1_c, ↓Mn.newL_1_c, ↓Mn.newT_2_c, ↓Mn.newL_2_c, ↓Mn.newT_3_c, ↓Mn.newL_3_c, ↓Mn.newT_4_c, ↓Mn.newL_4_c, ↓Mn.newT_5_c, ↓Mn.newL_5_c, ↓Mn.newT_6_c, ↓Mn.newL_6_c, ↓Mn.newT_7_c, ↓Mn.newL_7_c, ↓Mn.newT_8_c, ↓Mn.newL_8_c, ↓Mn.newT_9_c, ↓Mn.newL_9_c, ↓Mn.isi_non_int_c, ↓Mn.isi_non_bool_c, ↓Mn.isi_non_str_c, ↓Mn.isi_non_tuple_c, ↓Mn.isi_non_list_c, ↓Mn.isi_bl_int_c, ↓Mn.isi_bl_bool_c, ↓Mn.isi_bl_str_c, ↓Mn.isi_bl_tuple_c, ↓Mn.isi_bl_list_c, ↓Mn.isi_int_int_c, ↓Mn.isi_int_bool_c, ↓Mn.isi_int_str_c, ↓Mn.isi_int_tuple_c, ↓Mn.isi_int_list_c, ↓Mn.isi_str_int_c, ↓Mn.isi_str_bool_c, ↓Mn.isi_str_str_c, ↓Mn.isi_str_tuple_c, ↓Mn.isi_str_list_c, ↓Mn.isi_tup_int_c, ↓Mn.isi_tup_bool_c, ↓Mn.isi_tup_str_c, ↓Mn.isi_tup_tuple_c, ↓Mn.isi_tup_list_c, ↓Mn.isi_lst_int_c, ↓Mn.isi_lst_bool_c, ↓Mn.isi_lst_str_c, ↓Mn.isi_lst_tuple_c, ↓Mn.isi_lst_list_c, ↓Mn.ix_t0_c, ↓Mn.ix_t1_c, ↓Mn.ix_l0_c, ↓Mn.ix_l1_c, ↓Mn.wp_nx, ↓Mn.wp_rt, ↓Mn.wp_exc, ↓Mn.wp_stuck, ↓Mn.wp_ite, ↓Mn.wpV_zero, ↓Mn.wpV_succ, ↓Mn.wpB_one, ↓Mn.wpB_2, ↓Mn.wpB_3, ↓Mn.wp_nil, ↓Mn.wp_cons, ↓Mn.wp_asg, ↓Mn.wp_put, ↓Mn.wp_asgT, ↓Mn.wp_tupS, ↓Mn.wp_ts0, ↓Mn.wp_tsV, ↓Mn.wp_tsS, ↓Mn.wp_par, ↓Mn.wp_expr, ↓Mn.wp_ret, ↓Mn.wp_if, ↓Mn.wp_for, ↓Mn.wp_while, ↓Mn.wp_rais, ↓Mn.wp_try, ↓Mn.hnd_cons, ↓Mn.enum_c, ↓Mn.enumL_c, ↓Mn.tuple_c, ↓Mn.tupleT_c, ↓Mn.fr_ix0, ↓Mn.fr_ix1, ↓Mn.eq_fr_c, ↓Mn.ne_fr_c, ↓Mn.ix_row, ↓Mn.len_row, ↓Mn.len_mdl, ↓Mn.len_los, ↓Mn.ix_mdl0, ↓Mn.isi_row_tuple, ↓Mn.cmp_is_c, ↓Mn.cmp_isnot_c, ↓Mn.cell_tup_c, ↓Mn.newL_nil_c, ↓Mn.slT_1, ↓Mn.slT_t1, ↓Mn.slT_t2, ↓Mn.slT_t4, ↓Mn.slT_l, ↓Mn.listT_c, ↓Mn.listL_c, ↓Mn.itr_rowD, ↓Mn.enum_rowD, ↓Mn.sl_rowD_1, ↓Mn.sl_rowD_t1, ↓Mn.sl_rowD_t2, ↓Mn.sl_rowD_t4, ↓Mn.sl_rowD_l, ↓Mn.list_rowD, ↓Mn.itr_mdl, ↓Mn.enum_mdl, ↓Mn.sl_mdl_1, ↓Mn.sl_mdl_t1, ↓Mn.sl_mdl_t2, ↓Mn.sl_mdl_t4, ↓Mn.sl_mdl_l, ↓Mn.list_mdl, ↓Mn.itr_losD, ↓Mn.enum_losD, ↓Mn.sl_losD_1, ↓Mn.sl_losD_t1, ↓Mn.sl_losD_t2, ↓Mn.sl_losD_t4, ↓Mn.sl_losD_l, ↓Mn.list_losD, ↓Mn.itr_intsD, ↓Mn.enum_intsD, ↓Mn.sl_intsD_1, ↓Mn.sl_intsD_t1, ↓Mn.sl_intsD_t2, ↓Mn.sl_intsD_t4, ↓Mn.sl_intsD_l, ↓Mn.list_intsD, ↓Mn.len_intsD, ↓Mn.itr_natsD, ↓Mn.enum_natsD, ↓Mn.sl_natsD_1, ↓Mn.sl_natsD_t1, ↓Mn.sl_natsD_t2, ↓Mn.sl_natsD_t4, ↓Mn.sl_natsD_l, ↓Mn.list_natsD, ↓Mn.len_natsD, ↓Mn.nebl_c, ↓Mn.nes_InvalidModel, ↓Mn.eqs_InvalidModel, ↓Mn.nes_InvalidLosses, ↓Mn.eqs_InvalidLosses, ↓Mn.nes_InvalidRule, ↓Mn.eqs_InvalidRule, ↓Mn.nes_InvalidMixed, ↓Mn.eqs_InvalidMixed, ↓Mn.nes_InvalidBelief, ↓Mn.eqs_InvalidBelief, ↓Mn.nes_InvalidObservation, ↓Mn.eqs_InvalidObservation, ↓Mn.nes_InvalidGrouping, ↓Mn.eqs_InvalidGrouping, ↓Mn.nes_NotSufficient, ↓Mn.eqs_NotSufficient, ↓Mn.nes_InvalidNumbers, ↓Mn.eqs_InvalidNumbers, ↓Mn.nes_InvalidEstimate, ↓Mn.eqs_InvalidEstimate, ↓Mn.nes_InvalidState, ↓Mn.eqs_InvalidState, ↓Mn.nes_ZeroChance, ↓Mn.eqs_ZeroChance, ↓Mn.nes_NoEstimate, ↓Mn.eqs_NoEstimate, ↓Mn.nes_UnlikeStates, ↓Mn.eqs_UnlikeStates, ↓Mn.nes_TooLarge, ↓Mn.eqs_TooLarge, ↓Mn.nes_InvalidTable, ↓Mn.eqs_InvalidTable, ↓Mn.nes_Impossible, ↓Mn.eqs_Impossible, ↓Mn.nes_NothingToUndo, ↓Mn.eqs_NothingToUndo, ↓Mn.nes_ParseError, ↓Mn.eqs_ParseError, ↓Mn.ck_c, Mn.truD_bl, Mn.truD_int, Mn.truD_non, Mn.truD_tup, Mn.truD_lst, Mn.truD_scr, Mn.tru1_bl, Mn.tru1_int, Mn.shaped_int, Mn.eqv_int, Mn.sq_tup, Mn.sq_lst, Mn.sq_scr, Mn.lst_lst, Mn.at_0, Mn.at_1, Mn.take_self, Mn.take_app, Mn.isNon_non, Mn.isNon_bl, Mn.isNon_int, Mn.isNon_str, Mn.isNon_tup, Mn.isNon_lst, Mn.isNon_fr, Mn.isNon_row, Mn.isNon_mdl, Mn.cell_at, Mn.cell_lst, Mn.intO_n, Mn.intO_i, Mn.isSome_s, Mn.isNon_intsD, Mn.isNon_natsD, Mn.nl_mdl, Mn.nl_row, Mn.nl_los, Mn.nl_ints, Mn.wd_mdl, Mn.orv_ok, Mn.frOf_fr, Mn.rowOf_row, Mn.mdlOf_mdl, Mn.intsOf_ints, Mn.losOf_los, List.getElem?_cons_zero, List.getElem?_cons_succ, ↓reduceIte, List.map_cons, List.map_nil, List.replicate, List.append, List.cons_append, List.nil_append, List.length_cons, List.length_nil, Nat.reduceSub, Nat.reduceAdd, Nat.sub_self, Bool.false_eq_true, Bool.not_true, Bool.not_false, decide_true, decide_false, List.length_map, bne_self_eq_false, and_true, true_and, and_self, $args,*])
  | `(tactic| simp_arith only) => `(tactic| simp only [↓Mn.tcaseB_bl, ↓Mn.cps_ok, ↓Mn.cps_exc, ↓Mn.cps_stuck, ↓Mn.bind_is, ↓Mn.st_is, ↓Mn.only_is, ↓Mn.cps_cps, ↓Mn.bind_cps, ↓Mn.tcase_some, ↓Mn.cps_ite, ↓Mn.rdV_some, ↓Mn.ev_var, ↓Mn.ev_frz, ↓Mn.ev_cst, ↓Mn.ev_tup, ↓Mn.ev_lst, ↓Mn.ev_bin, ↓Mn.ev_neg, ↓Mn.ev_not, ↓Mn.ev_cmp, ↓Mn.ev_chain, ↓Mn.ev_ite, ↓Mn.ev_and, ↓Mn.ev_or, ↓Mn.ev_a1, ↓Mn.ev_r1, ↓Mn.ev_a2, ↓Mn.ev_r2, ↓Mn.ev_ix, ↓Mn.ev_sl, ↓Mn.ev_rev, ↓Mn.ev_call, ↓Mn.ev_bi, ↓Mn.ev_isi, ↓Mn.ev_bm, ↓Mn.ev_lc, ↓Mn.ev_nil, ↓Mn.ev_cons, ↓Mn.ev_o0, ↓Mn.ev_o1, ↓Mn.ev_iexp, ↓Mn.ev_irng1, ↓Mn.ev_irng2, ↓Mn.ev_ienum, ↓Mn.ev_izip, ↓Mn.tcase_bl, ↓Mn.tcase_int, ↓Mn.tcase_non, ↓Mn.tcase_tup, ↓Mn.tcase_lst, ↓Mn.tcase_scr, ↓Mn.bin_add_c, ↓Mn.bin_sub_c, ↓Mn.neg_int_c, ↓Mn.cmp_lt_c, ↓Mn.cmp_le_c, ↓Mn.cmp_gt_c, ↓Mn.cmp_ge_c, ↓Mn.cmp_eqi_c, ↓Mn.cmp_nei_c, ↓Mn.itr_tup_c, ↓Mn.itr_lst_c, ↓Mn.itr_scr_c, ↓Mn.len_seq_c, ↓Mn.len_lst_c, ↓Mn.len_scr_c, ↓Mn.bi_abs_c, ↓Mn.ofO_some_c, ↓Mn.newT_0_c, ↓Mn.newL_0_c, ↓Mn.newT_1_c, ↓Mn.newL_1_c, ↓Mn.newT_2_c, ↓Mn.newL_2_c, ↓Mn.newT_3_c, ↓Mn.newL_3_c, ↓Mn.newT_4_c, ↓Mn.newL_4_c, ↓Mn.newT_5_c, ↓Mn.newL_5_c, ↓Mn.newT_6_c, ↓Mn.newL_6_c, ↓Mn.newT_7_c, ↓Mn.newL_7_c, ↓Mn.newT_8_c, ↓Mn.newL_8_c, ↓Mn.newT_9_c, ↓Mn.newL_9_c, ↓Mn.isi_non_int_c, ↓Mn.isi_non_bool_c, ↓Mn.isi_non_str_c, ↓Mn.isi_non_tuple_c, ↓Mn.isi_non_list_c, ↓Mn.isi_bl_int_c, ↓Mn.isi_bl_bool_c, ↓Mn.isi_bl_str_c, ↓Mn.isi_bl_tuple_c, ↓Mn.isi_bl_list_c, ↓Mn.isi_int_int_c, ↓Mn.isi_int_bool_c, ↓Mn.isi_int_str_c, ↓Mn.isi_int_tuple_c, ↓Mn.isi_int_list_c, ↓Mn.isi_str_int_c, ↓Mn.isi_str_bool_c, ↓Mn.isi_str_str_c, ↓Mn.isi_str_tuple_c, ↓Mn.isi_str_list_c, ↓Mn.isi_tup_int_c, ↓Mn.isi_tup_bool_c, ↓Mn.isi_tup_str_c, ↓Mn.isi_tup_tuple_c, ↓Mn.isi_tup_list_c, ↓Mn.isi_lst_int_c, ↓Mn.isi_lst_bool_c, ↓Mn.isi_lst_str_c, ↓Mn.isi_lst_tuple_c, ↓Mn.isi_lst_list_c, ↓Mn.ix_t0_c, ↓Mn.ix_t1_c, ↓Mn.ix_l0_c, ↓Mn.ix_l1_c, ↓Mn.wp_nx, ↓Mn.wp_rt, ↓Mn.wp_exc, ↓Mn.wp_stuck, ↓Mn.wp_ite, ↓Mn.wpV_zero, ↓Mn.wpV_succ, ↓Mn.wpB_one, ↓Mn.wpB_2, ↓Mn.wpB_3, ↓Mn.wp_nil, ↓Mn.wp_cons, ↓Mn.wp_asg, ↓Mn.wp_put, ↓Mn.wp_asgT, ↓Mn.wp_tupS, ↓Mn.wp_ts0, ↓Mn.wp_tsV, ↓Mn.wp_tsS, ↓Mn.wp_par, ↓Mn.wp_expr, ↓Mn.wp_ret, ↓Mn.wp_if, ↓Mn.wp_for, ↓Mn.wp_while, ↓Mn.wp_rais, ↓Mn.wp_try, ↓Mn.hnd_cons, ↓Mn.enum_c, ↓Mn.enumL_c, ↓Mn.tuple_c, ↓Mn.tupleT_c, ↓Mn.fr_ix0, ↓Mn.fr_ix1, ↓Mn.eq_fr_c, ↓Mn.ne_fr_c, ↓Mn.ix_row, ↓Mn.len_row, ↓Mn.len_mdl, ↓Mn.len_los, ↓Mn.ix_mdl0, ↓Mn.isi_row_tuple, ↓Mn.cmp_is_c, ↓Mn.cmp_isnot_c, ↓Mn.cell_tup_c, ↓Mn.newL_nil_c, ↓Mn.slT_1, ↓Mn.slT_t1, ↓Mn.slT_t2, ↓Mn.slT_t4, ↓Mn.slT_l, ↓Mn.listT_c, ↓Mn.listL_c, ↓Mn.itr_rowD, ↓Mn.enum_rowD, ↓Mn.sl_rowD_1, ↓Mn.sl_rowD_t1, ↓Mn.sl_rowD_t2, ↓Mn.sl_rowD_t4, ↓Mn.sl_rowD_l, ↓Mn.list_rowD, ↓Mn.itr_mdl, ↓Mn.enum_mdl, ↓Mn.sl_mdl_1, ↓Mn.sl_mdl_t1, ↓Mn.sl_mdl_t2, ↓Mn.sl_mdl_t4, ↓Mn.sl_mdl_l, ↓Mn.list_mdl, ↓Mn.itr_losD, ↓Mn.enum_losD, ↓Mn.sl_losD_1, ↓Mn.sl_losD_t1, ↓Mn.sl_losD_t2, ↓Mn.sl_losD_t4, ↓Mn.sl_losD_l, ↓Mn.list_losD, ↓Mn.itr_intsD, ↓Mn.enum_intsD, ↓Mn.sl_intsD_1, ↓Mn.sl_intsD_t1, ↓Mn.sl_intsD_t2, ↓Mn.sl_intsD_t4, ↓Mn.sl_intsD_l, ↓Mn.list_intsD, ↓Mn.len_intsD, ↓Mn.itr_natsD, ↓Mn.enum_natsD, ↓Mn.sl_natsD_1, ↓Mn.sl_natsD_t1, ↓Mn.sl_natsD_t2, ↓Mn.sl_natsD_t4, ↓Mn.sl_natsD_l, ↓Mn.list_natsD, ↓Mn.len_natsD, ↓Mn.nebl_c, ↓Mn.nes_InvalidModel, ↓Mn.eqs_InvalidModel, ↓Mn.nes_InvalidLosses, ↓Mn.eqs_InvalidLosses, ↓Mn.nes_InvalidRule, ↓Mn.eqs_InvalidRule, ↓Mn.nes_InvalidMixed, ↓Mn.eqs_InvalidMixed, ↓Mn.nes_InvalidBelief, ↓Mn.eqs_InvalidBelief, ↓Mn.nes_InvalidObservation, ↓Mn.eqs_InvalidObservation, ↓Mn.nes_InvalidGrouping, ↓Mn.eqs_InvalidGrouping, ↓Mn.nes_NotSufficient, ↓Mn.eqs_NotSufficient, ↓Mn.nes_InvalidNumbers, ↓Mn.eqs_InvalidNumbers, ↓Mn.nes_InvalidEstimate, ↓Mn.eqs_InvalidEstimate, ↓Mn.nes_InvalidState, ↓Mn.eqs_InvalidState, ↓Mn.nes_ZeroChance, ↓Mn.eqs_ZeroChance, ↓Mn.nes_NoEstimate, ↓Mn.eqs_NoEstimate, ↓Mn.nes_UnlikeStates, ↓Mn.eqs_UnlikeStates, ↓Mn.nes_TooLarge, ↓Mn.eqs_TooLarge, ↓Mn.nes_InvalidTable, ↓Mn.eqs_InvalidTable, ↓Mn.nes_Impossible, ↓Mn.eqs_Impossible, ↓Mn.nes_NothingToUndo, ↓Mn.eqs_NothingToUndo, ↓Mn.nes_ParseError, ↓Mn.eqs_ParseError, ↓Mn.ck_c, Mn.truD_bl, Mn.truD_int, Mn.truD_non, Mn.truD_tup, Mn.truD_lst, Mn.truD_scr, Mn.tru1_bl, Mn.tru1_int, Mn.shaped_int, Mn.eqv_int, Mn.sq_tup, Mn.sq_lst, Mn.sq_scr, Mn.lst_lst, Mn.at_0, Mn.at_1, Mn.take_self, Mn.take_app, Mn.isNon_non, Mn.isNon_bl, Mn.isNon_int, Mn.isNon_str, Mn.isNon_tup, Mn.isNon_lst, Mn.isNon_fr, Mn.isNon_row, Mn.isNon_mdl, Mn.cell_at, Mn.cell_lst, Mn.intO_n, Mn.intO_i, Mn.isSome_s, Mn.isNon_intsD, Mn.isNon_natsD, Mn.nl_mdl, Mn.nl_row, Mn.nl_los, Mn.nl_ints, Mn.wd_mdl, Mn.orv_ok, Mn.frOf_fr, Mn.rowOf_row, Mn.mdlOf_mdl, Mn.intsOf_ints, Mn.losOf_los, List.getElem?_cons_zero, List.getElem?_cons_succ, ↓reduceIte, List.map_cons, List.map_nil, List.replicate, List.append, List.cons_append, List.nil_append, List.length_cons, List.length_nil, Nat.reduceSub, Nat.reduceAdd, Nat.sub_self, Bool.false_eq_true, Bool.not_true, Bool.not_false, decide_true, decide_false, List.length_map, bne_self_eq_false, and_true, true_and, and_self])
namespace Mn
open PySem
theorem natsD_of {l : List Nat} {f : Nat → D} : True := trivial
theorem VL.ne {s : Nat} {l : List (List Int)} (h : VL s l) : l ≠ [] := fun e => by have := h.n1; rw [e] at this; simp at this
theorem findV_ne {ls : List (List Int)} {w : List Rat} (h : ls ≠ []) : findV ls w ≠ [] := argV_ne fun e => h (by simpa [sumsV] using e)
theorem findV_lt {ls : List (List Int)} {w : List Rat} {a : Nat} (h : a ∈ findV ls w) : a < ls.length := by
  have := (mem_argV.mp h).1
  rwa [sumsV_len] at this
theorem head_mem {l : List Nat} (h : l ≠ []) : l.headD 0 ∈ l := by
  cases l with
  | nil => exact absurd rfl h
  | cons a r => exact List.mem_cons_self
theorem bestV_lt {m : List (List Rat)} {ls : List (List Int)} {b : List Rat} (h : ls ≠ []) : ∀ a ∈ bestV m ls b, a < ls.length := by
  intro a ha
  obtain ⟨j, _, rfl⟩ := List.mem_map.mp ha
  exact findV_lt (head_mem (findV_ne h))
theorem bestV_len {m : List (List Rat)} {ls : List (List Int)} {b : List Rat} : (bestV m ls b).length = wd m := by simp [bestV]
theorem ix_natsL0 {β : Type} {l : List Nat} (h : l ≠ []) {S : Store} {k : D → Store → β} {x : Nat → Store → β} {z : β} : (ixS (natsL l) (.int 0) S).cps k x z = k (.int (l.headD 0 : Nat)) S := by
  cases l with
  | nil => exact absurd rfl h
  | cons a r => exact ix_l0_c
end Mn
namespace Lb
open PySem Mn
theorem find_best_c {b n a : Nat} {S : Store} {v : D} {m : List (List Rat)} {ls : List (List Int)} {l : List Rat} (hv : SqD v (ls.map intsD)) (hm : VM m) (hms : ∀ r ∈ m, Szs a r) (ha : 1 ≤ a) (hl : Szs n l) (hll : l.length ≤ 100) (hls : VL m.length ls) (hn : n + a ≤ 1000) :
    d_find_best b [mdl m, v, rowD l] S = .ok (natsD (bestV m ls l)) S := by
  refine run_eq rfl natsD_pure ?_
  unfold b_find_best
  have h6 := hm.w6
  have h3 := hm.n3
  have hl3 := hls.n3
  simp_arith only [ix_mdl hm.ne, rng1_c (show (m.headD []).length ≤ 1000000 by show wd m ≤ _; omega)]
  refine lc_map (fun j : Nat => D.int ((findV ls (sharesV m l j)).headD 0 : Nat)) rfl (by rw [List.length_range]; exact line_le (by show wd m ≤ _; omega)) ?_ ?_
  · intro j hj
    have hj : j < wd m := List.mem_range.mp hj
    simp_arith only [wipe_1, List.set_cons_succ, List.set_cons_zero]
    rw [shares_c hl (fun r hr => ⟨hms r hr, by rw [hm.w r hr]; exact hj⟩) ha (by omega) (by omega)]
    simp_arith only
    rw [find_actions_c (n := n + a) (k := 3) hv (.inr rfl) hls.ne (by omega) hls.bt (fun l hl => by rw [hls.w l hl]; omega) (szs_shares hl hms ha) (shares_len (.inr h3)) (by omega) (by omega) (by omega)]
    simp_arith only [ix_natsL0 (findV_ne hls.ne)]
  · rw [newL_c (by rw [List.length_map, List.length_range]; exact line_le (by show wd m ≤ _; omega))]
    simp_arith only
    unfold natsD bestV
    rw [List.map_map]
    rfl
theorem require_both_e {b : Nat} {S : Store} {u v c : D} (hu : Pd u) (hv : Pd v) (hc : Pd c) : d_require_both b [u, v, c] S = ck (IsM u) 1 S (ck (IsL (nl u) v) 2 S (ck (IsCh (nl u) (nl u) c) 5 S (.ok .non S))) := by
  refine run_val rfl ?_
  unfold b_require_both
  simp_arith only [require_losses_e hu hv]
  by_cases h : IsM u
  · by_cases h2 : IsL (nl u) v
    · obtain ⟨us, rfl, e1, e2⟩ := h.t
      have e3 := require_belief_e (b := S.length) (S := S) (us := us) (v := c) (by omega) hc
      rw [← e1] at e3
      simp_arith only [tv_of h, tv_of h2, ck_ok h, ck_ok h2, e3]
      by_cases h3 : IsCh (nl (.tup us)) (nl (.tup us)) c
      · simp_arith only [tv_of h3, ck_ok h3]
      · simp_arith only [tv_no h3, ck_no h3]
    · simp_arith only [tv_of h, tv_no h2, ck_ok h, ck_no h2]
  · simp_arith only [tv_no h, ck_no h]
theorem best_actions_e {b : Nat} {S : Store} {u v c r : D} (hu : Pd u) (hv : Pd v) (hc : Pd c) (hr : Pd r) : d_best_actions b [u, v, c, r] S = ck (IsM u) 1 S (ck (IsL (nl u) v) 2 S (ck (IsCh (nl u) (nl u) c) 5 S (ck (IsO (nl (it0 u)) r) 6 S (.ok (natsL (findV (losOf v) (sharesV (mdlOf u) (rowOf c) (intOf r).toNat))) S)))) := by
  refine run_val rfl ?_
  unfold b_best_actions
  simp_arith only [require_losses_e hu hv]
  by_cases h : IsM u
  · by_cases h2 : IsL (nl u) v
    · obtain ⟨us, eu, e1, e2⟩ := h.t
      have e3 := require_belief_e (b := S.length) (S := S) (us := us) (v := c) (by omega) hc
      rw [← e1, ← eu] at e3
      simp_arith only [tv_of h, tv_of h2, ck_ok h, ck_ok h2, e3]
      by_cases h3 : IsCh (nl u) (nl u) c
      · obtain ⟨r0, rest, er, _, _, e4, _⟩ := h.w
        have e5 := require_observation_e (b := S.length) (S := S) (r0 := r0) (rest := rest) hr
        rw [← e4, ← er] at e5
        simp_arith only [tv_of h3, ck_ok h3, e5]
        by_cases h4 : IsO (nl (it0 u)) r
        · simp_arith only [tv_of h4, ck_ok h4]
          clear e3 e5
          obtain ⟨m, rfl, vm⟩ := h
          obtain ⟨ls, rfl, vl⟩ := h2
          obtain ⟨l, rfl, l1, l2, _⟩ := h3
          obtain ⟨j, rfl, hj⟩ := h4
          rw [wd_mdl] at hj
          rw [nl_mdl] at l1 l2 vl
          have hn3 := vm.n3
          have hl3 := vl.n3
          rw [shares_c (n := 200) (a := 200) (row_pb hc).2 (fun r hr => ⟨(mdl_pb hu).2 r hr, by rw [vm.w r hr]; exact hj⟩) (by omega) (by omega) (by omega)]
          simp_arith only
          rw [find_actions_c (n := 400) (k := 3) sq_los (.inr rfl) vl.ne (by omega) vl.bt (fun l hl => by rw [vl.w l hl]; omega) (szs_shares (row_pb hc).2 (mdl_pb hu).2 (by omega)) (shares_len (.inr hn3)) (by omega) (by omega) (by omega)]
          simp_arith only [mdlOf_mdl, rowOf_row, losOf_los, intOf, Int.toNat_natCast]
          exact natsL_pure
        · simp_arith only [tv_no h4, ck_no h4]
      · simp_arith only [tv_no h3, ck_no h3]
    · simp_arith only [tv_of h, tv_no h2, ck_ok h, ck_no h2]
  · simp_arith only [tv_no h, ck_no h]
theorem mean_risk_e {b : Nat} {S : Store} {u v c r : D} (hu : Pb 60 u) (hv : Pd v) (hc : Pb 60 c) (hr : Pb 60 r) : d_mean_risk b [u, v, c, r] S = ck (IsM u) 1 S (ck (IsL (nl u) v) 2 S (ck (IsCh (nl u) (nl u) c) 5 S (ck (IsX (nl (it0 u)) (nl v) r) 4 S (.ok (fr (dot (rowOf c) (risksV (mdlOf u) (losOf v) (mdlOf r)))) S)))) := by
  have hu' : Pd u := Pb.mono (by decide) hu
  have hc' : Pd c := Pb.mono (by decide) hc
  have hr' : Pd r := Pb.mono (by decide) hr
  refine run_val rfl ?_
  unfold b_mean_risk
  simp_arith only [require_losses_e hu' hv]
  by_cases h : IsM u
  · by_cases h2 : IsL (nl u) v
    · obtain ⟨us, eu, e1, e2⟩ := h.t
      have e3 := require_belief_e (b := S.length) (S := S) (us := us) (v := c) (by omega) hc'
      rw [← e1, ← eu] at e3
      simp_arith only [tv_of h, tv_of h2, ck_ok h, ck_ok h2, e3]
      by_cases h3 : IsCh (nl u) (nl u) c
      · simp_arith only [tv_of h3, ck_ok h3, require_mixed_e hu' hv hr', tv_of h, tv_of h2]
        by_cases h4 : IsX (nl (it0 u)) (nl v) r
        · simp_arith only [tv_of h4, ck_ok h4]
          clear e3
          obtain ⟨m, rfl, vm⟩ := h
          obtain ⟨ls, rfl, vl⟩ := h2
          obtain ⟨l, rfl, l1, l2, _⟩ := h3
          obtain ⟨x, rfl, vx⟩ := h4
          rw [nl_mdl] at l1 l2 vl
          have hn3 := vm.n3
          have hl3 := vl.n3
          have h6 := vm.w6
          have hms : ∀ r ∈ m, Szs 60 r ∧ r.length ≤ 6 := fun r hr => ⟨(mdl_pb hu).2 r hr, by rw [vm.w r hr]; exact h6⟩
          rw [risks_of_c (a := 60) (c := 60) (w := 6) (k := 3) sq_los hms vl.w vl.bt (mdl_pb hr).2 vl.n3 (by omega) (by omega) (by omega) (by omega) (by omega) (by omega)]
          simp_arith only
          rw [product_sum_c (k := 3) sq_row sq_row (row_pb hc).2 (szs_risksV (a := 60) (c := 60) (w := 6) (k := 3) hms (mdl_pb hr).2 vl.bt vl.n3) (.inl (by omega)) (by omega) (by omega) (by omega)]
          simp_arith only [mdlOf_mdl, rowOf_row, losOf_los]
          exact fr_pure
        · simp_arith only [tv_no h4, ck_no h4]
      · simp_arith only [tv_no h3, ck_no h3]
    · simp_arith only [tv_of h, tv_no h2, ck_ok h, ck_no h2]
  · simp_arith only [tv_no h, ck_no h]
/-- the least mean risk -/
noncomputable def lrV (m : List (List Rat)) (ls : List (List Int)) (l : List Rat) : Rat := dot l (risksV m ls ((bestV m ls l).map (unit ls.length)))
theorem least_of_belief_c {b n a : Nat} {S : Store} {m : List (List Rat)} {ls : List (List Int)} {l : List Rat} (hm : VM m) (hms : ∀ r ∈ m, Szs a r) (ha : 1 ≤ a) (hl : Szs n l) (hll : l.length = m.length) (hls : VL m.length ls) (hn : n ≤ 300) (hn2 : a ≤ 300) :
    d_least_of_belief b [mdl m, losD ls, rowD l] S = .ok (fr (lrV m ls l)) S := by
  refine run_eq rfl fr_pure ?_
  unfold b_least_of_belief
  have h6 := hm.w6
  have h3 := hm.n3
  have hl3 := hls.n3
  have hms' : ∀ r ∈ m, Szs a r ∧ r.length ≤ 6 := fun r hr => ⟨hms r hr, by rw [hm.w r hr]; exact h6⟩
  have hun : ∀ r ∈ (bestV m ls l).map (unit ls.length), Szs 1 r := fun r hr => by
    obtain ⟨a, _, rfl⟩ := List.mem_map.mp hr
    exact sz_unit
  simp_arith only [find_best_c sq_los hm hms ha hl (by omega) hls (by omega)]
  rw [mixed_of_c (u := natsD (bestV m ls l)) (rs := bestV m ls l) (ds := ls.map intsD) sq_los sq_nats (by simp; omega) (by rw [bestV_len]; omega), List.length_map]
  simp_arith only
  rw [risks_of_c (a := a) (c := 1) (w := 6) (k := 3) sq_los hms' hls.w hls.bt hun hl3 (by omega) (by omega) (by omega) (by omega) (by omega) (by omega)]
  simp_arith only
  rw [product_sum_c (k := 3) sq_row sq_row hl (szs_risksV (a := a) (c := 1) (w := 6) (k := 3) hms' hun hls.bt hl3) (.inl (by omega)) (by omega) (by omega) (by omega)]
  simp_arith only
  rfl
theorem least_risk_e {b : Nat} {S : Store} {u v c : D} (hu : Pd u) (hv : Pd v) (hc : Pd c) : d_least_risk b [u, v, c] S = ck (IsM u) 1 S (ck (IsL (nl u) v) 2 S (ck (IsCh (nl u) (nl u) c) 5 S (.ok (fr (lrV (mdlOf u) (losOf v) (rowOf c))) S))) := by
  refine run_val rfl ?_
  unfold b_least_risk
  simp_arith only [require_both_e hu hv hc]
  by_cases h : IsM u
  · by_cases h2 : IsL (nl u) v
    · by_cases h3 : IsCh (nl u) (nl u) c
      · simp_arith only [tv_of h, tv_of h2, tv_of h3, ck_ok h, ck_ok h2, ck_ok h3]
        obtain ⟨m, rfl, vm⟩ := h
        obtain ⟨ls, rfl, vl⟩ := h2
        obtain ⟨l, rfl, l1, l2, _⟩ := h3
        rw [nl_mdl] at l1 l2 vl
        rw [least_of_belief_c (n := 200) (a := 200) vm (mdl_pb hu).2 (by omega) (row_pb hc).2 (by omega) vl (by omega) (by omega)]
        simp_arith only [mdlOf_mdl, rowOf_row, losOf_los]
        exact fr_pure
      · simp_arith only [tv_of h, tv_of h2, tv_no h3, ck_ok h, ck_ok h2, ck_no h3]
    · simp_arith only [tv_of h, tv_no h2, ck_ok h, ck_no h2]
  · simp_arith only [tv_no h, ck_no h]
theorem best_rule_e {b : Nat} {S : Store} {u v c : D} (hu : Pd u) (hv : Pd v) (hc : Pd c) : d_best_rule b [u, v, c] S = ck (IsM u) 1 S (ck (IsL (nl u) v) 2 S (ck (IsCh (nl u) (nl u) c) 5 S (.ok (natsD (bestV (mdlOf u) (losOf v) (rowOf c))) S))) := by
  refine run_val rfl ?_
  unfold b_best_rule
  simp_arith only [require_both_e hu hv hc]
  by_cases h : IsM u
  · by_cases h2 : IsL (nl u) v
    · by_cases h3 : IsCh (nl u) (nl u) c
      · simp_arith only [tv_of h, tv_of h2, tv_of h3, ck_ok h, ck_ok h2, ck_ok h3]
        obtain ⟨m, rfl, vm⟩ := h
        obtain ⟨ls, rfl, vl⟩ := h2
        obtain ⟨l, rfl, l1, l2, _⟩ := h3
        rw [nl_mdl] at l1 l2 vl
        have := vm.n3
        rw [find_best_c (n := 200) (a := 200) sq_los vm (mdl_pb hu).2 (by omega) (row_pb hc).2 (by omega) vl (by omega)]
        simp_arith only [mdlOf_mdl, rowOf_row, losOf_los]
        exact natsD_pure
      · simp_arith only [tv_of h, tv_of h2, tv_no h3, ck_ok h, ck_ok h2, ck_no h3]
    · simp_arith only [tv_of h, tv_no h2, ck_ok h, ck_no h2]
  · simp_arith only [tv_no h, ck_no h]
end Lb

/-! Plain: what is told of exceptions (printed by gen/orgen.py). -/
namespace Lb
open PySem Mn
theorem law_best_actions_or_e {b : Nat} {S : Store} {u v c r : D} (hu : Pd u) (hv : Pd v) (hc : Pd c) (hr : Pd r) : d__law_best_actions_or b [u, v, c, r] S = if tv (IsM u) = true then if tv (Mn.IsL (nl u) v) = true then if tv (IsCh (nl u) (nl u) c) = true then if tv (IsO (nl (it0 u)) r) = true then .ok (natsL (findV (losOf v) (sharesV (mdlOf u) (rowOf c) (intOf r).toNat))) S else .ok (.str "InvalidObservation") S else .ok (.str "InvalidBelief") S else .ok (.str "InvalidLosses") S else .ok (.str "InvalidModel") S := by
  refine or_gen rfl ?_ (best_actions_e hu hv hc hr) ?_ ?_ ?_
  · rfl
  · simp only [ck_c, cps_ok, natsL_pure, and_self]
    repeat' split
    all_goals trivial
  · simp only [orv_ck, orv_ex, orv_ok]
    rfl
  · repeat' split
    all_goals simp
theorem law_least_risk_or_e {b : Nat} {S : Store} {u v c : D} (hu : Pd u) (hv : Pd v) (hc : Pd c) : d__law_least_risk_or b [u, v, c] S = if tv (IsM u) = true then if tv (Mn.IsL (nl u) v) = true then if tv (IsCh (nl u) (nl u) c) = true then .ok (fr (lrV (mdlOf u) (losOf v) (rowOf c))) S else .ok (.str "InvalidBelief") S else .ok (.str "InvalidLosses") S else .ok (.str "InvalidModel") S := by
  refine or_gen rfl ?_ (least_risk_e hu hv hc) ?_ ?_ ?_
  · rfl
  · simp only [ck_c, cps_ok, fr_pure, and_self]
    repeat' split
    all_goals trivial
  · simp only [orv_ck, orv_ex, orv_ok]
    rfl
  · repeat' split
    all_goals simp
theorem law_best_rule_or_e {b : Nat} {S : Store} {u v c : D} (hu : Pd u) (hv : Pd v) (hc : Pd c) : d__law_best_rule_or b [u, v, c] S = if tv (IsM u) = true then if tv (Mn.IsL (nl u) v) = true then if tv (IsCh (nl u) (nl u) c) = true then .ok (natsD (bestV (mdlOf u) (losOf v) (rowOf c))) S else .ok (.str "InvalidBelief") S else .ok (.str "InvalidLosses") S else .ok (.str "InvalidModel") S := by
  refine or_gen rfl ?_ (best_rule_e hu hv hc) ?_ ?_ ?_
  · rfl
  · simp only [ck_c, cps_ok, natsD_pure, and_self]
    repeat' split
    all_goals trivial
  · simp only [orv_ck, orv_ex, orv_ok]
    rfl
  · repeat' split
    all_goals simp
theorem law_mean_risk_or_e {b : Nat} {S : Store} {u v c r : D} (hu : Pb 60 u) (hv : Pd v) (hc : Pb 60 c) (hr : Pb 60 r) : d__law_mean_risk_or b [u, v, c, r] S = if tv (IsM u) = true then if tv (Mn.IsL (nl u) v) = true then if tv (IsCh (nl u) (nl u) c) = true then if tv (IsX (nl (it0 u)) (nl v) r) = true then .ok (fr (dot (rowOf c) (risksV (mdlOf u) (losOf v) (mdlOf r)))) S else .ok (.str "InvalidMixed") S else .ok (.str "InvalidBelief") S else .ok (.str "InvalidLosses") S else .ok (.str "InvalidModel") S := by
  refine or_gen rfl ?_ (mean_risk_e hu hv hc hr) ?_ ?_ ?_
  · rfl
  · simp only [ck_c, cps_ok, fr_pure, and_self]
    repeat' split
    all_goals trivial
  · simp only [orv_ck, orv_ex, orv_ok]
    rfl
  · repeat' split
    all_goals simp
end Lb

/-! Plain: the law's own best actions and rules. -/
local macro_rules
  | `(tactic| simp_arith only [$args,*]) => `(tactic| simp only [↓Mn.tcaseB_bl, ↓Mn.cps_ok, ↓Mn.cps_exc, ↓Mn.cps_stuck, ↓Mn.bind_is, ↓Mn.st_is, ↓Mn.only_is, ↓Mn.cps_cps, ↓Mn.bind_cps, ↓Mn.tcase_some, ↓Mn.cps_ite, ↓Mn.rdV_some, ↓Mn.ev_var, ↓Mn.ev_frz, ↓Mn.ev_cst, ↓Mn.ev_tup, ↓Mn.ev_lst, ↓Mn.ev_bin, ↓Mn.ev_neg, ↓Mn.ev_not, ↓Mn.ev_cmp, ↓Mn.ev_chain, ↓Mn.ev_ite, ↓Mn.ev_and, ↓Mn.ev_or, ↓Mn.ev_a1, ↓Mn.ev_r1, ↓Mn.ev_a2, ↓Mn.ev_r2, ↓Mn.ev_ix, ↓Mn.ev_sl, ↓Mn.ev_rev, ↓Mn.ev_call, ↓Mn.ev_bi, ↓Mn.ev_isi, ↓Mn.ev_bm, ↓Mn.ev_lc, ↓Mn.ev_nil, ↓Mn.ev_cons, ↓Mn.ev_o0, ↓Mn.ev_o1, ↓Mn.ev_iexp, ↓Mn.ev_irng1, ↓Mn.ev_irng2, ↓Mn.ev_ienum, ↓Mn.ev_izip, ↓Mn.tcase_bl, ↓Mn.tcase_int, ↓Mn.tcase_non, ↓Mn.tcase_tup, ↓Mn.tcase_lst, ↓Mn.tcase_scr, ↓Mn.bin_add_c, ↓Mn.bin_sub_c, ↓Mn.neg_int_c, ↓Mn.cmp_lt_c, ↓Mn.cmp_le_c, ↓Mn.cmp_gt_c, ↓Mn.cmp_ge_c, ↓Mn.cmp_eqi_c, ↓Mn.cmp_nei_c, ↓Mn.itr_tup_c, ↓Mn.itr_lst_c, ↓Mn.itr_scr_c, ↓Mn.len_seq_c, ↓Mn.len_lst_c, ↓Mn.len_scr_c, ↓Mn.bi_abs_c, ↓Mn.ofO_some_c, ↓Mn.newT_0_c, ↓Mn.newL_0_c, ↓Mn.newT_1_c, ↓Mn.newL_1_c, ↓Mn.newT_2_c, ↓Mn.newL_2_c, ↓Mn.newT_3_c, ↓Mn.newL_3_c, ↓Mn.newT_4_c, ↓Mn.newL_4_c, ↓Mn.newT_5_c, ↓Mn.newL_5_c, ↓Mn.newT_6_c, ↓Mn.newL_6_c, ↓Mn.newT_7_c, ↓Mn.newL_7_c, ↓Mn.newT_8_c, ↓Mn.newL_8_c, ↓Mn.newT_9_c, ↓Mn.newL_9_c, ↓Mn.isi_non_int_c, ↓Mn.isi_non_bool_c, ↓Mn.isi_non_str_c, ↓Mn.isi_non_tuple_c, ↓Mn.isi_non_list_c, ↓Mn.isi_bl_int_c, ↓Mn.isi_bl_bool_c, ↓Mn.isi_bl_str_c, ↓Mn.isi_bl_tuple_c, ↓Mn.isi_bl_list_c, ↓Mn.isi_int_int_c, ↓Mn.isi_int_bool_c, ↓Mn.isi_int_str_c, ↓Mn.isi_int_tuple_c, ↓Mn.isi_int_list_c, ↓Mn.isi_str_int_c, ↓Mn.isi_str_bool_c, ↓Mn.isi_str_str_c, ↓Mn.isi_str_tuple_c, ↓Mn.isi_str_list_c, ↓Mn.isi_tup_int_c, ↓Mn.isi_tup_bool_c, ↓Mn.isi_tup_str_c, ↓Mn.isi_tup_tuple_c, ↓Mn.isi_tup_list_c, ↓Mn.isi_lst_int_c, ↓Mn.isi_lst_bool_c, ↓Mn.isi_lst_str_c, ↓Mn.isi_lst_tuple_c, ↓Mn.isi_lst_list_c, ↓Mn.ix_t0_c, ↓Mn.ix_t1_c, ↓Mn.ix_l0_c, ↓Mn.ix_l1_c, ↓Mn.wp_nx, ↓Mn.wp_rt, ↓Mn.wp_exc, ↓Mn.wp_stuck, ↓Mn.wp_ite, ↓Mn.wpV_zero, ↓Mn.wpV_succ, ↓Mn.wpB_one, ↓Mn.wpB_2, ↓Mn.wpB_3, ↓Mn.wp_nil, ↓Mn.wp_cons, ↓Mn.wp_asg, ↓Mn.wp_put, ↓Mn.wp_asgT, ↓Mn.wp_tupS, ↓Mn.wp_ts0, ↓Mn.wp_tsV, ↓Mn.wp_tsS, ↓Mn.wp_par, ↓Mn.wp_expr, ↓Mn.wp_ret, ↓Mn.wp_if, ↓Mn.wp_for, ↓Mn.wp_while, ↓Mn.wp_rais, ↓Mn.wp_try, ↓Mn.hnd_cons, ↓Mn.enum_c, ↓Mn.enumL_c, ↓Mn.tuple_c, ↓Mn.tupleT_c, ↓Mn.fr_ix0, ↓Mn.fr_ix1, ↓Mn.eq_fr_c, ↓Mn.ne_fr_c, ↓Mn.ix_row, ↓Mn.len_row, ↓Mn.len_mdl, ↓Mn.len_los, ↓Mn.ix_mdl0, ↓Mn.isi_row_tuple, ↓Mn.cmp_is_c, ↓Mn.cmp_isnot_c, ↓Mn.cell_tup_c, ↓Mn.newL_nil_c, ↓Mn.slT_1, ↓Mn.slT_t1, ↓Mn.slT_t2, ↓Mn.slT_t4, ↓Mn.slT_l, ↓Mn.listT_c, ↓Mn.listL_c, ↓Mn.itr_rowD, ↓Mn.enum_rowD, ↓Mn.sl_rowD_1, ↓Mn.sl_rowD_t1, ↓Mn.sl_rowD_t2, ↓Mn.sl_rowD_t4, ↓Mn.sl_rowD_l, ↓Mn.list_rowD, ↓Mn.itr_mdl, ↓Mn.enum_mdl, ↓Mn.sl_mdl_1, ↓Mn.sl_mdl_t1, ↓Mn.sl_mdl_t2, ↓Mn.sl_mdl_t4, ↓Mn.sl_mdl_l, ↓Mn.list_mdl, ↓Mn.itr_losD, ↓Mn.enum_losD, ↓Mn.sl_losD_1, ↓Mn.sl_losD_t1, ↓Mn.sl_losD_t2, ↓Mn.sl_losD_t4, ↓Mn.sl_losD_l, ↓Mn.list_losD, ↓Mn.itr_intsD, ↓Mn.enum_intsD, ↓Mn.sl_intsD_1, ↓Mn.sl_intsD_t1, ↓Mn.sl_intsD_t2, ↓Mn.sl_intsD_t4, ↓Mn.sl_intsD_l, ↓Mn.list_intsD, ↓Mn.len_intsD, ↓Mn.itr_natsD, ↓Mn.enum_natsD, ↓Mn.sl_natsD_1, ↓Mn.sl_natsD_t1, ↓Mn.sl_natsD_t2, ↓Mn.sl_natsD_t4, ↓Mn.sl_natsD_l, ↓Mn.list_natsD, ↓Mn.len_natsD, ↓Mn.nebl_c, ↓Mn.nes_InvalidModel, ↓Mn.eqs_InvalidModel, ↓Mn.nes_InvalidLosses, ↓Mn.eqs_InvalidLosses, ↓Mn.nes_InvalidRule, ↓Mn.eqs_InvalidRule, ↓Mn.nes_InvalidMixed, ↓Mn.eqs_InvalidMixed, ↓Mn.nes_InvalidBelief, ↓Mn.eqs_InvalidBelief, ↓Mn.nes_InvalidObservation, ↓Mn.eqs_InvalidObservation, ↓Mn.nes_InvalidGrouping, ↓Mn.eqs_InvalidGrouping, ↓Mn.nes_NotSufficient, ↓Mn.eqs_NotSufficient, ↓Mn.nes_InvalidNumbers, ↓Mn.eqs_InvalidNumbers, ↓Mn.nes_InvalidEstimate, ↓Mn.eqs_InvalidEstimate, ↓Mn.nes_InvalidState, ↓Mn.eqs_InvalidState, ↓Mn.nes_ZeroChance, ↓Mn.eqs_ZeroChance, ↓Mn.nes_NoEstimate, ↓Mn.eqs_NoEstimate, ↓Mn.nes_UnlikeStates, ↓Mn.eqs_UnlikeStates, ↓Mn.nes_TooLarge, ↓Mn.eqs_TooLarge, ↓Mn.nes_InvalidTable, ↓Mn.eqs_InvalidTable, ↓Mn.nes_Impossible, ↓Mn.eqs_Impossible, ↓Mn.nes_NothingToUndo, ↓Mn.eqs_NothingToUndo, ↓Mn.nes_ParseError, ↓Mn.eqs_ParseError, ↓Mn.ck_c, Mn.truD_bl, Mn.truD_int, Mn.truD_non, Mn.truD_tup, Mn.truD_lst, Mn.truD_scr, Mn.tru1_bl, Mn.tru1_int, Mn.shaped_int, Mn.eqv_int, Mn.sq_tup, Mn.sq_lst, Mn.sq_scr, Mn.lst_lst, Mn.at_0, Mn.at_1, Mn.take_self, Mn.take_app, Mn.isNon_non, Mn.isNon_bl, Mn.isNon_int, Mn.isNon_str, Mn.isNon_tup, Mn.isNon_lst, Mn.isNon_fr, Mn.isNon_row, Mn.isNon_mdl, Mn.cell_at, Mn.cell_lst, Mn.intO_n, Mn.intO_i, Mn.isSome_s, Mn.isNon_intsD, Mn.isNon_natsD, Mn.nl_mdl, Mn.nl_row, Mn.nl_los, Mn.nl_ints, Mn.wd_mdl, Mn.orv_ok, Mn.frOf_fr, Mn.rowOf_row, Mn.mdlOf_mdl, Mn.intsOf_ints, Mn.losOf_los, List.getElem?_cons_zero, List.getElem?_cons_succ, ↓reduceIte, List.map_cons, List.map_nil, List.replicate, List.append, List.cons_append, List.nil_append, List.length_cons, List.length_nil, Nat.reduceSub, Nat.reduceAdd, Nat.sub_self, Bool.false_eq_true, Bool.not_true, Bool.not_false, decide_true, decide_false, List.length_map, bne_self_eq_false, and_true, true_and, and_self, $args,*])
  | `(tactic| simp_arith only) => `(tactic| simp only [↓Mn.tcaseB_bl, ↓Mn.cps_ok, ↓Mn.cps_exc, ↓Mn.cps_stuck, ↓Mn.bind_is, ↓Mn.st_is, ↓Mn.only_is, ↓Mn.cps_cps, ↓Mn.bind_cps, ↓Mn.tcase_some, ↓Mn.cps_ite, ↓Mn.rdV_some, ↓Mn.ev_var, ↓Mn.ev_frz, ↓Mn.ev_cst, ↓Mn.ev_tup, ↓Mn.ev_lst, ↓Mn.ev_bin, ↓Mn.ev_neg, ↓Mn.ev_not, ↓Mn.ev_cmp, ↓Mn.ev_chain, ↓Mn.ev_ite, ↓Mn.ev_and, ↓Mn.ev_or, ↓Mn.ev_a1, ↓Mn.ev_r1, ↓Mn.ev_a2, ↓Mn.ev_r2, ↓Mn.ev_ix, ↓Mn.ev_sl, ↓Mn.ev_rev, ↓Mn.ev_call, ↓Mn.ev_bi, ↓Mn.ev_isi, ↓Mn.ev_bm, ↓Mn.ev_lc, ↓Mn.ev_nil, ↓Mn.ev_cons, ↓Mn.ev_o0, ↓Mn.ev_o1, ↓Mn.ev_iexp, ↓Mn.ev_irng1, ↓Mn.ev_irng2, ↓Mn.ev_ienum, ↓Mn.ev_izip, ↓Mn.tcase_bl, ↓Mn.tcase_int, ↓Mn.tcase_non, ↓Mn.tcase_tup, ↓Mn.tcase_lst, ↓Mn.tcase_scr, ↓Mn.bin_add_c, ↓Mn.bin_sub_c, ↓Mn.neg_int_c, ↓Mn.cmp_lt_c, ↓Mn.cmp_le_c, ↓Mn.cmp_gt_c, ↓Mn.cmp_ge_c, ↓Mn.cmp_eqi_c, ↓Mn.cmp_nei_c, ↓Mn.itr_tup_c, ↓Mn.itr_lst_c, ↓Mn.itr_scr_c, ↓Mn.len_seq_c, ↓Mn.len_lst_c, ↓Mn.len_scr_c, ↓Mn.bi_abs_c, ↓Mn.ofO_some_c, ↓Mn.newT_0_c, ↓Mn.newL_0_c, ↓Mn.newT_1_c, ↓Mn.newL_1_c, ↓Mn.newT_2_c, ↓Mn.newL_2_c, ↓Mn.newT_3_c, ↓Mn.newL_3_c, ↓Mn.newT_4_c, ↓Mn.newL_4_c, ↓Mn.newT_5_c, ↓Mn.newL_5_c, ↓Mn.newT_6_c, ↓Mn.newL_6_c, ↓Mn.newT_7_c, ↓Mn.newL_7_c, ↓Mn.newT_8_c, ↓Mn.newL_8_c, ↓Mn.newT_9_c, ↓Mn.newL_9_c, ↓Mn.isi_non_int_c, ↓Mn.isi_non_bool_c, ↓Mn.isi_non_str_c, ↓Mn.isi_non_tuple_c, ↓Mn.isi_non_list_c, ↓Mn.isi_bl_int_c, ↓Mn.isi_bl_bool_c, ↓Mn.isi_bl_str_c, ↓Mn.isi_bl_tuple_c, ↓Mn.isi_bl_list_c, ↓Mn.isi_int_int_c, ↓Mn.isi_int_bool_c, ↓Mn.isi_int_str_c, ↓Mn.isi_int_tuple_c, ↓Mn.isi_int_list_c, ↓Mn.isi_str_int_c, ↓Mn.isi_str_bool_c, ↓Mn.isi_str_str_c, ↓Mn.isi_str_tuple_c, ↓Mn.isi_str_list_c, ↓Mn.isi_tup_int_c, ↓Mn.isi_tup_bool_c, ↓Mn.isi_tup_str_c, ↓Mn.isi_tup_tuple_c, ↓Mn.isi_tup_list_c, ↓Mn.isi_lst_int_c, ↓Mn.isi_lst_bool_c, ↓Mn.isi_lst_str_c, ↓Mn.isi_lst_tuple_c, ↓Mn.isi_lst_list_c, ↓Mn.ix_t0_c, ↓Mn.ix_t1_c, ↓Mn.ix_l0_c, ↓Mn.ix_l1_c, ↓Mn.wp_nx, ↓Mn.wp_rt, ↓Mn.wp_exc, ↓Mn.wp_stuck, ↓Mn.wp_ite, ↓Mn.wpV_zero, ↓Mn.wpV_succ, ↓Mn.wpB_one, ↓Mn.wpB_2, ↓Mn.wpB_3, ↓Mn.wp_nil, ↓Mn.wp_cons, ↓Mn.wp_asg, ↓Mn.wp_put, ↓Mn.wp_asgT, ↓Mn.wp_tupS, ↓Mn.wp_ts0, ↓Mn.wp_tsV, ↓Mn.wp_tsS, ↓Mn.wp_par, ↓Mn.wp_expr, ↓Mn.wp_ret, ↓Mn.wp_if, ↓Mn.wp_for, ↓Mn.wp_while, ↓Mn.wp_rais, ↓Mn.wp_try, ↓Mn.hnd_cons, ↓Mn.enum_c, ↓Mn.enumL_c, ↓Mn.tuple_c, ↓Mn.tupleT_c, ↓Mn.fr_ix0, ↓Mn.fr_ix1, ↓Mn.eq_fr_c, ↓Mn.ne_fr_c, ↓Mn.ix_row, ↓Mn.len_row, ↓Mn.len_mdl, ↓Mn.len_los, ↓Mn.ix_mdl0, ↓Mn.isi_row_tuple, ↓Mn.cmp_is_c, ↓Mn.cmp_isnot_c, ↓Mn.cell_tup_c, ↓Mn.newL_nil_c, ↓Mn.slT_1, ↓Mn.slT_t1, ↓Mn.slT_t2, ↓Mn.slT_t4, ↓Mn.slT_l, ↓Mn.listT_c, ↓Mn.listL_c, ↓Mn.itr_rowD, ↓Mn.enum_rowD, ↓Mn.sl_rowD_1, ↓Mn.sl_rowD_t1, ↓Mn.sl_rowD_t2, ↓Mn.sl_rowD_t4, ↓Mn.sl_rowD_l, ↓Mn.list_rowD, ↓Mn.itr_mdl, ↓Mn.enum_mdl, ↓Mn.sl_mdl_1, ↓Mn.sl_mdl_t1, ↓Mn.sl_mdl_t2, ↓Mn.sl_mdl_t4, ↓Mn.sl_mdl_l, ↓Mn.list_mdl, ↓Mn.itr_losD, ↓Mn.enum_losD, ↓Mn.sl_losD_1, ↓Mn.sl_losD_t1, ↓Mn.sl_losD_t2, ↓Mn.sl_losD_t4, ↓Mn.sl_losD_l, ↓Mn.list_losD, ↓Mn.itr_intsD, ↓Mn.enum_intsD, ↓Mn.sl_intsD_1, ↓Mn.sl_intsD_t1, ↓Mn.sl_intsD_t2, ↓Mn.sl_intsD_t4, ↓Mn.sl_intsD_l, ↓Mn.list_intsD, ↓Mn.len_intsD, ↓Mn.itr_natsD, ↓Mn.enum_natsD, ↓Mn.sl_natsD_1, ↓Mn.sl_natsD_t1, ↓Mn.sl_natsD_t2, ↓Mn.sl_natsD_t4, ↓Mn.sl_natsD_l, ↓Mn.list_natsD, ↓Mn.len_natsD, ↓Mn.nebl_c, ↓Mn.nes_InvalidModel, ↓Mn.eqs_InvalidModel, ↓Mn.nes_InvalidLosses, ↓Mn.eqs_InvalidLosses, ↓Mn.nes_InvalidRule, ↓Mn.eqs_InvalidRule, ↓Mn.nes_InvalidMixed, ↓Mn.eqs_InvalidMixed, ↓Mn.nes_InvalidBelief, ↓Mn.eqs_InvalidBelief, ↓Mn.nes_InvalidObservation, ↓Mn.eqs_InvalidObservation, ↓Mn.nes_InvalidGrouping, ↓Mn.eqs_InvalidGrouping, ↓Mn.nes_NotSufficient, ↓Mn.eqs_NotSufficient, ↓Mn.nes_InvalidNumbers, ↓Mn.eqs_InvalidNumbers, ↓Mn.nes_InvalidEstimate, ↓Mn.eqs_InvalidEstimate, ↓Mn.nes_InvalidState, ↓Mn.eqs_InvalidState, ↓Mn.nes_ZeroChance, ↓Mn.eqs_ZeroChance, ↓Mn.nes_NoEstimate, ↓Mn.eqs_NoEstimate, ↓Mn.nes_UnlikeStates, ↓Mn.eqs_UnlikeStates, ↓Mn.nes_TooLarge, ↓Mn.eqs_TooLarge, ↓Mn.nes_InvalidTable, ↓Mn.eqs_InvalidTable, ↓Mn.nes_Impossible, ↓Mn.eqs_Impossible, ↓Mn.nes_NothingToUndo, ↓Mn.eqs_NothingToUndo, ↓Mn.nes_ParseError, ↓Mn.eqs_ParseError, ↓Mn.ck_c, Mn.truD_bl, Mn.truD_int, Mn.truD_non, Mn.truD_tup, Mn.truD_lst, Mn.truD_scr, Mn.tru1_bl, Mn.tru1_int, Mn.shaped_int, Mn.eqv_int, Mn.sq_tup, Mn.sq_lst, Mn.sq_scr, Mn.lst_lst, Mn.at_0, Mn.at_1, Mn.take_self, Mn.take_app, Mn.isNon_non, Mn.isNon_bl, Mn.isNon_int, Mn.isNon_str, Mn.isNon_tup, Mn.isNon_lst, Mn.isNon_fr, Mn.isNon_row, Mn.isNon_mdl, Mn.cell_at, Mn.cell_lst, Mn.intO_n, Mn.intO_i, Mn.isSome_s, Mn.isNon_intsD, Mn.isNon_natsD, Mn.nl_mdl, Mn.nl_row, Mn.nl_los, Mn.nl_ints, Mn.wd_mdl, Mn.orv_ok, Mn.frOf_fr, Mn.rowOf_row, Mn.mdlOf_mdl, Mn.intsOf_ints, Mn.losOf_los, List.getElem?_cons_zero, List.getElem?_cons_succ, ↓reduceIte, List.map_cons, List.map_nil, List.replicate, List.append, List.cons_append, List.nil_append, List.length_cons, List.length_nil, Nat.reduceSub, Nat.reduceAdd, Nat.sub_self, Bool.false_eq_true, Bool.not_true, Bool.not_false, decide_true, decide_false, List.length_map, bne_self_eq_false, and_true, true_and, and_self])
namespace Mn
open PySem
theorem eq_empty_frs {S : Store} {l : List Rat} : cmpD .eq (.lst (l.map fr)) (.lst []) S = .ok (.bl l.isEmpty) S := by
  rw [cmp_eq_sd (n := 2) (by simp only [sd, List.all_eq_true]; intro d hd; obtain ⟨q, _, rfl⟩ := List.mem_map.mp hd; exact sd_fr) rfl (by decide)]
  congr 2
  refine tv_eq ?_
  cases l <;> simp
theorem zipIdx_filter {α β : Type} {l : List α} (d : α) {p : α × Nat → Bool} : (l.zipIdx.filter p).map (fun x => x.2) = (List.range l.length).filter fun i => p (l.getD i d, i) := by
  have : l.zipIdx = (List.range l.length).map fun i => (l.getD i d, i) := by
    have := zipIdx_range d (fun a i => (a, i)) l
    simpa using this
  rw [this, List.filter_map, List.map_map]
  conv => rhs; rw [← List.map_id ((List.range l.length).filter _)]
  rfl
theorem argV_range {c : List Rat} : argV c = (List.range c.length).filter fun a => (c.filter fun q => decide (q < c.getD a 0)).isEmpty := by
  unfold argV
  rw [zipIdx_filter (β := Nat) 0]
  refine List.filter_congr fun a ha => ?_
  have ha : a < c.length := List.mem_range.mp ha
  refine tv_eq ?_
  rw [List.isEmpty_iff, List.filter_eq_nil_iff]
  constructor
  · intro h
    refine Rat.le_antisymm ?_ (minV_le (getD_mem ha))
    have hne : c ≠ [] := fun e => by rw [e] at ha; simp at ha
    have := h _ (minV_mem hne)
    exact Rat.not_lt.mp (by simpa using this)
  · intro h q hq
    have := minV_le hq
    rw [← h] at this
    simpa using Rat.not_lt.mpr this
theorem rulesV_len {A : Nat} : ∀ n, (rulesV A n).length = A ^ n
  | 0 => rfl
  | n + 1 => by
    have : ∀ L : List (List Nat), (L.flatMap fun r => (List.range A).map fun a => r ++ [a]).length = L.length * A := by
      intro L
      induction L with
      | nil => simp
      | cons r L ih => rw [List.flatMap_cons, List.length_append, ih, List.length_map, List.length_range, List.length_cons, Nat.add_mul, Nat.one_mul, Nat.add_comm]
    show (rulesV A (n + 1)).length = _
    rw [rulesV, this, rulesV_len n, Nat.pow_succ]
theorem fmin_unique {α : Type} {L : List α} {f : α → Rat} {x y : α} (hx : FMin L f x) (hy : FMin L f y) : x = y := by
  obtain ⟨p1, q1, e1, a1, b1⟩ := hx
  obtain ⟨p2, q2, e2, a2, b2⟩ := hy
  rw [e1] at e2
  rcases List.append_eq_append_iff.mp e2 with ⟨t, h1, h2⟩ | ⟨t, h1, h2⟩
  · cases t with
    | nil => simp at h2; exact h2.1
    | cons z t =>
      simp only [List.cons_append, List.cons.injEq] at h2
      have hy : y ∈ q1 := by rw [h2.2]; simp
      have hx : x ∈ p2 := by rw [h1, ← h2.1]; simp
      have g1 := a2 x hx
      have g2 := b1 y hy
      exact absurd g2 (Rat.not_le.mpr g1)
  · cases t with
    | nil => simp at h2; exact h2.1.symm
    | cons z t =>
      simp only [List.cons_append, List.cons.injEq] at h2
      have hx : x ∈ q2 := by rw [h2.2]; simp
      have hy : y ∈ p1 := by rw [h1, ← h2.1]; simp
      have g1 := a1 y hy
      have g2 := b2 x hx
      exact absurd g2 (Rat.not_le.mpr g1)
theorem fmin_congr {α : Type} {L : List α} {f g : α → Rat} {x : α} (h : FMin L f x) (e : ∀ a ∈ L, f a = g a) : FMin L g x := by
  obtain ⟨pre, post, rfl, h1, h2⟩ := h
  have hx := e x (by simp)
  exact ⟨pre, post, rfl, fun y hy => by rw [← hx, ← e y (by simp [hy])]; exact h1 y hy, fun y hy => by rw [← hx, ← e y (by simp [hy])]; exact h2 y hy⟩
/-- one more -/
theorem fmin_step {α : Type} {L : List α} {f : α → Rat} {x a : α} (h : FMin L f x) : FMin (L ++ [a]) f (if f a < f x then a else x) := by
  split
  · rename_i hlt
    obtain ⟨hm, hle⟩ := fmin_min h
    exact ⟨L, [], rfl, fun y hy => by have := hle y hy; grind, fun _ h => by simp at h⟩
  · rename_i hlt
    obtain ⟨pre, post, rfl, h1, h2⟩ := h
    refine ⟨pre, post ++ [a], by simp, h1, fun y hy => ?_⟩
    rcases List.mem_append.mp hy with hy | hy
    · exact h2 y hy
    · rw [List.mem_singleton.mp hy]; exact Rat.not_lt.mp hlt
theorem best_is {m : List (List Rat)} {ls : List (List Int)} {b : List Rat} (hm : VM m) (hls : VL m.length ls) (hb : b.length = m.length) : FMin (rulesV ls.length (wd m)) (fun r => dot b (risksV m ls (r.map (unit ls.length)))) (bestV m ls b) := by
  have h1 := best_first (A := ls.length) (c := fun j => sumsV ls (sharesV m b j)) (fun j => sumsV_len) (by have := hls.n1; omega) (wd m)
  refine fmin_congr h1 fun r hr => ?_
  obtain ⟨hl, hlt⟩ := rulesV_mem hr
  exact (mean_rule (s := m.length) hb rfl hm.w rfl hls.w hl hlt).symm
end Mn
namespace Lb
open PySem Mn
theorem law_actions_c {b n a j : Nat} {S : Store} {m : List (List Rat)} {ls : List (List Int)} {l : List Rat} (hl : Szs n l) (hm : ∀ r ∈ m, Szs a r ∧ j < r.length) (ha : 1 ≤ a) (hn : n + a ≤ 400) (hm3 : m.length ≤ 3) (hll : l.length ≤ 1000) (hls : ls.length ≤ 100) (hbt : ∀ l ∈ ls, ∀ i ∈ l, Bt 7 i) (hlen : ∀ l ∈ ls, l.length ≤ 100) :
    d__law_actions b [mdl m, losD ls, rowD l, .int (j : Nat)] S = .ok (natsL (findV ls (sharesV m l j))) S := by
  refine run_eq rfl natsL_pure ?_
  unfold b__law_actions
  simp_arith only
  rw [zip_c sq_row sq_mdl]
  simp_arith only
  have hs := szs_shares (j := j) hl (fun r hr => (hm r hr).1) ha
  have hl3 : (sharesV m l j).length ≤ 3 := shares_len (.inr hm3)
  refine lc_map (fun p : Rat × List Rat => fr (p.1 * p.2.getD j 0)) rfl (by rw [List.length_zip]; exact line_le (by omega)) ?_ ?_
  · rintro ⟨q, r⟩ hqr
    have hq := (List.of_mem_zip hqr).1
    have hr := hm r (List.of_mem_zip hqr).2
    simp_arith only [wipe_2, List.set_cons_succ, List.set_cons_zero, ix_row_d hr.2, law_times_c (hl q hq) (szs_getD hr.1 ha) (show n + a ≤ 8000 by omega)]
  · rw [show (l.zip m).map (fun p : Rat × List Rat => fr (p.1 * p.2.getD j 0)) = (sharesV m l j).map fr by unfold sharesV; rw [List.map_map]; rfl]
    rw [newL_c (by rw [List.length_map]; exact line_le (by omega))]
    refine lc_map (fun q : List Int => fr (dot (lossR q) (sharesV m l j))) rfl (line_le (by omega)) ?_ ?_
    · intro q hq
      simp_arith only [wipe_1, List.set_cons_succ, List.set_cons_zero]
      refine lc_map (fun i : Int => fr (i : Rat)) rfl (line_le (by have := hlen q hq; omega)) ?_ ?_
      · intro i hi
        simp_arith only [wipe_1, List.set_cons_succ, List.set_cons_zero]
        rfl
      · rw [show q.map (fun i : Int => fr (i : Rat)) = (lossR q).map fr by unfold lossR; rw [List.map_map]; rfl]
        rw [newL_c (by have := hlen q hq; simp [lossR]; exact line_le (by omega))]
        rw [law_dot_c (k := 3) (.inr rfl) (.inr rfl) hs (szs_lossR (hbt q hq)) (.inl hl3) (by omega) (by omega) (by omega), dot_comm]
        simp_arith only
    · rw [show ls.map (fun q : List Int => fr (dot (lossR q) (sharesV m l j))) = (sumsV ls (sharesV m l j)).map fr by unfold sumsV; rw [List.map_map]; rfl]
      rw [newL_c (by rw [List.length_map, sumsV_len]; exact line_le (by omega))]
      have hss := szs_sums hbt hs hl3
      have hsl : (sumsV ls (sharesV m l j)).length ≤ 100 := by rw [sumsV_len]; exact hls
      simp_arith only [rng1_c (show (sumsV ls (sharesV m l j)).length ≤ 1000000 by omega)]
      generalize hc : sumsV ls (sharesV m l j) = c at hss hsl
      refine lc_if (fun a : Nat => (c.filter fun q => decide (q < c.getD a 0)).isEmpty) (fun a : Nat => D.int (a : Nat)) rfl (by simp; exact line_le (by omega)) ?_ ?_
      · intro a ha
        have ha : a < c.length := List.mem_range.mp ha
        have hix : ∀ {S k x z}, (ixS (.lst (c.map fr)) (.int (a : Nat)) S).cps k x z = k (fr (c.getD a 0)) S := fun {S k x z} => by
          rw [ix_lst, atD_nat, List.getElem?_map]
          exact ix_row_d (β := Prop) ha
        simp_arith only [wipe_1, List.set_cons_succ, List.set_cons_zero]
        refine lc_if (fun q : Rat => decide (q < c.getD a 0)) fr rfl (line_le (by omega)) ?_ ?_
        · intro q hq
          simp_arith only [wipe_1, List.set_cons_succ, List.set_cons_zero, hix]
          rw [law_below_c (hss q hq) (hss _ (getD_mem ha)) (by omega)]
          by_cases h : q < c.getD a 0
          · simp_arith only [h]
          · simp_arith only [h]
        · rw [newL_c (filt_len' (by omega))]
          simp_arith only [eq_empty_frs]
          cases (c.filter fun q => decide (q < c.getD a 0)).isEmpty <;> simp_arith only
      · rw [newL_c (filt_len' (by simp; omega))]
        unfold natsL findV
        rw [hc, argV_range]
        exact ⟨rfl, take_self⟩
theorem law_rules_c {b : Nat} {S : Store} {v : D} {ls : List D} {m : List (List Rat)} (hv : SqD v ls) (hm : m ≠ []) (hw : wd m ≤ 6) (hl : ls.length ≤ 3) : d__law_rules b [mdl m, v] S = .ok (.lst ((rulesV ls.length (wd m)).map natsD)) S := by
  have hpow : ∀ n, n ≤ 6 → ls.length ^ n ≤ 729 := fun n hn => Nat.le_trans (Nat.pow_le_pow_left hl n) (Nat.le_trans (Nat.pow_le_pow_right (by decide) hn) (by decide))
  refine run_eq rfl ?_ ?_
  · simp only [D.pure]
    generalize rulesV ls.length (wd m) = L
    induction L with
    | nil => rfl
    | cons a r ih => simp only [List.map_cons, D.pures, natsD_pure, ih, Bool.and_self]
  unfold b__law_rules
  simp_arith only [ix_mdl hm]
  refine for_wp (fun pre ρ S' => S' = S ∧ ∃ o3 o4 o5 o6, ρ = [some (mdl m), some v, some (.lst ((rulesV ls.length pre.length).map natsD)), o3, o4, o5, o6]) (fun _ _ _ _ => rfl) ⟨rfl, _, _, _, _, rfl⟩ ?_ ?_
  · rintro pre a post e ρ S' ⟨rfl, o3, o4, o5, o6, rfl⟩
    have hpre : pre.length + 1 ≤ 6 := by
      have : (m.headD []).length = (pre ++ a :: post).length := by rw [e]
      simp only [List.length_append, List.length_cons] at this
      have h2 : (m.headD []).length = wd m := rfl
      omega
    simp_arith only
    refine for_wp (fun pre2 ρ S'' => S'' = S' ∧ ∃ o5 o6, ρ = [some (mdl m), some v, some (.lst ((rulesV ls.length pre.length).map natsD)), some (fr a), some (.lst ((pre2.flatMap fun r => (List.range ls.length).map fun a => r ++ [a]).map natsD)), o5, o6]) (fun _ _ _ _ => rfl) ⟨rfl, _, _, rfl⟩ ?_ ?_
    · rintro pre2 r post2 e2 ρ S'' ⟨rfl, o5, o6, rfl⟩
      simp_arith only [len_c hv, rng1_c (show ls.length ≤ 1000000 by omega)]
      have hrl := (rulesV_mem (mem_mid e2)).1
      refine lc_map (fun a : Nat => natsD (r ++ [a])) rfl (by simp; exact line_le (by omega)) ?_ ?_
      · intro a' ha'
        simp_arith only [wipe_1, List.set_cons_succ, List.set_cons_zero]
        rw [addr_natsD (by omega)]
        refine ⟨?_, rfl⟩
        unfold natsD
        simp
      · rw [newL_c (by simp; exact line_le (by omega))]
        have hlen : (pre2.flatMap fun r => (List.range ls.length).map fun a => r ++ [a]).length + ls.length ≤ 729 := by
          have h1 := rulesV_len (A := ls.length) (pre.length + 1)
          rw [rulesV, e2, List.flatMap_append, List.flatMap_cons, List.length_append, List.length_append, List.length_map, List.length_range] at h1
          have := hpow (pre.length + 1) (by omega)
          omega
        rw [addL_c (by rw [List.length_map]; simp only [List.length_map, List.length_range]; omega)]
        refine ⟨rfl, some (natsD r), o6, ?_⟩
        rw [List.flatMap_append, List.flatMap_cons, List.flatMap_nil, List.append_nil, List.map_append, List.map_map]
        rfl
    · rintro ρ S'' ⟨rfl, o5, o6, rfl⟩
      simp_arith only
      rw [List.length_append]
      exact ⟨_, _, _, _, rfl⟩
  · rintro ρ S' ⟨rfl, o3, o4, o5, o6, rfl⟩
    simp_arith only
    rfl
end Lb

/-! Plain: a mixed rule has the least mean risk just if it takes only best actions; beliefs add up. -/
namespace Mn
open PySem
theorem sumR_zero_iff {n : Nat} {f : Nat → Rat} (h : ∀ i, i < n → 0 ≤ f i) : sumR n f = 0 ↔ ∀ i, i < n → f i = 0 := by
  induction n with
  | zero => exact ⟨fun _ i hi => absurd hi (Nat.not_lt_zero _), fun _ => rfl⟩
  | succ n ih =>
    have h1 := sumR_nonneg (n := n) fun i hi => h i (by omega)
    have h2 := h n (by omega)
    have ih := ih fun i hi => h i (by omega)
    rw [sumR_s]
    constructor
    · intro e i hi
      have e1 : sumR n f = 0 := by grind
      have e2 : f n = 0 := by grind
      by_cases hin : i = n
      · rw [hin]; exact e2
      · exact ih.mp e1 i (by omega)
    · intro e
      rw [ih.mpr fun i hi => e i (by omega), e n (by omega)]
      exact Rat.add_zero 0
theorem sumR_sub {n : Nat} {f g : Nat → Rat} : sumR n (fun i => f i - g i) = sumR n f - sumR n g := by
  induction n with
  | zero => simp only [sumR_0]; grind
  | succ n ih => rw [sumR_s, sumR_s, sumR_s, ih]; grind
theorem ch_getD {l : List Rat} (h : Ch l) {i : Nat} : 0 ≤ l.getD i 0 := by
  rw [List.getD_eq_getElem?_getD]
  cases e : l[i]? with
  | none => exact Rat.le_refl
  | some q => exact h.1 q (List.mem_of_getElem? e)
theorem ch_sumR {l : List Rat} (h : Ch l) {n : Nat} (hn : l.length = n) : sumR n (fun i => l.getD i 0) = 1 := by
  rw [← h.2, list_sumR, hn]
/-- a mean is not below the least, and is it just if only the least count -/
theorem dot_min {A : Nat} {c x : List Rat} (hc : c.length = A) (hx : x.length = A) (hch : Ch x) (hA : 0 < A) : minV c ≤ dot c x ∧ (dot c x = minV c ↔ ∀ a, a < A → 0 < x.getD a 0 → a ∈ argV c) := by
  have hle : ∀ a, a < A → minV c ≤ c.getD a 0 := fun a ha => minV_le (getD_mem (by omega))
  have h1 : dot c x - minV c = sumR A fun a => (c.getD a 0 - minV c) * x.getD a 0 := by
    rw [dot_sumR hc hx]
    have h2 : minV c = sumR A fun a => minV c * x.getD a 0 := by
      rw [sumR_mul, ch_sumR hch hx, Rat.mul_one]
    conv => lhs; rhs; rw [h2]
    rw [← sumR_sub]
    refine sumR_congr fun i _ => ?_
    grind
  have hnn : ∀ a, a < A → 0 ≤ (c.getD a 0 - minV c) * x.getD a 0 := fun a ha => Rat.mul_nonneg (by have := hle a ha; grind) (ch_getD hch)
  have h3 := sumR_nonneg hnn
  refine ⟨by grind, ?_⟩
  have h4 : dot c x = minV c ↔ sumR A (fun a => (c.getD a 0 - minV c) * x.getD a 0) = 0 := by
    rw [← h1]
    constructor
    · intro h; rw [h]; exact Rat.sub_self
    · intro h; grind
  rw [h4, sumR_zero_iff hnn]
  constructor
  · intro h a ha hp
    refine mem_argV.mpr ⟨by omega, ?_⟩
    rcases Rat.mul_eq_zero.mp (h a ha) with e | e
    · grind
    · rw [e] at hp; exact absurd hp Rat.lt_irrefl
  · intro h a ha
    by_cases hp : 0 < x.getD a 0
    · rw [(mem_argV.mp (h a ha hp)).2, Rat.sub_self, Rat.zero_mul]
    · have : x.getD a 0 = 0 := Rat.le_antisymm (Rat.not_lt.mp hp) (ch_getD hch)
      rw [this, Rat.mul_zero]
theorem argV_head {c : List Rat} (h : c ≠ []) : c.getD ((argV c).headD 0) 0 = minV c := by
  have hne := argV_ne h
  have : (argV c).headD 0 ∈ argV c := by
    cases e : argV c with
    | nil => exact absurd e hne
    | cons a r => exact List.mem_cons_self
  exact (mem_argV.mp this).2
theorem lr_is {m : List (List Rat)} {ls : List (List Int)} {b : List Rat} (hm : VM m) (hls : VL m.length ls) (hb : b.length = m.length) : Lb.lrV m ls b = sumR (wd m) fun j => minV (sumsV ls (sharesV m b j)) := by
  unfold Lb.lrV
  rw [mean_rule (s := m.length) (w := wd m) hb rfl hm.w rfl hls.w bestV_len (bestV_lt hls.ne)]
  unfold costR
  rw [bestV_len]
  refine sumR_congr fun j hj => ?_
  have : (bestV m ls b).getD j 0 = (findV ls (sharesV m b j)).headD 0 := by
    unfold bestV
    rw [getD_range hj]
  rw [this]
  exact argV_head fun e => hls.ne (by simpa [sumsV] using e)
theorem mean_min {m : List (List Rat)} {ls : List (List Int)} {b : List Rat} {x : List (List Rat)} (hm : VM m) (hls : VL m.length ls) (hb : b.length = m.length) (hx : VX (wd m) ls.length x) :
    Lb.lrV m ls b ≤ dot b (risksV m ls x) ∧ (dot b (risksV m ls x) = Lb.lrV m ls b ↔ ∀ j, j < wd m → ∀ a, a < ls.length → 0 < (x.getD j []).getD a 0 → a ∈ findV ls (sharesV m b j)) := by
  have hA := hls.n1
  have hxj : ∀ j, j < wd m → (x.getD j []).length = ls.length ∧ Ch (x.getD j []) := fun j hj => hx.2 _ (getD_mem (by rw [hx.1]; exact hj))
  have key : ∀ j, j < wd m → _ := fun j hj => dot_min (A := ls.length) (c := sumsV ls (sharesV m b j)) (x := x.getD j []) sumsV_len (hxj j hj).1 (hxj j hj).2 (by omega)
  rw [lr_is hm hls hb, mean_is (s := m.length) (w := wd m) (A := ls.length) hb rfl hm.w rfl hls.w hx.1 (fun r hr => (hx.2 r hr).1)]
  refine ⟨sumR_le fun j hj => (key j hj).1, ?_⟩
  have hnn : ∀ j, j < wd m → 0 ≤ dot (sumsV ls (sharesV m b j)) (x.getD j []) - minV (sumsV ls (sharesV m b j)) := fun j hj => by have := (key j hj).1; grind
  have h4 : (sumR (wd m) (fun j => dot (sumsV ls (sharesV m b j)) (x.getD j [])) = sumR (wd m) fun j => minV (sumsV ls (sharesV m b j))) ↔ sumR (wd m) (fun j => dot (sumsV ls (sharesV m b j)) (x.getD j []) - minV (sumsV ls (sharesV m b j))) = 0 := by
    rw [sumR_sub]
    constructor
    · intro h; rw [h]; exact Rat.sub_self
    · intro h; grind
  rw [h4, sumR_zero_iff hnn]
  constructor
  · intro h j hj
    exact (key j hj).2.mp (by have := h j hj; grind)
  · intro h j hj
    rw [(key j hj).2.mpr (h j hj)]
    exact Rat.sub_self
/-! beliefs after observations -/
theorem share_sum {m : List (List Rat)} {b : List Rat} {j : Nat} (hb : b.length = m.length) : (sharesV m b j).sum = sumR m.length fun i => b.getD i 0 * (m.getD i []).getD j 0 := by
  rw [list_sumR, shares_len' hb]
  exact sumR_congr fun i hi => shares_getD hb hi
theorem row_sum {m : List (List Rat)} (hm : VM m) {i : Nat} (hi : i < m.length) : sumR (wd m) (fun j => (m.getD i []).getD j 0) = 1 := ch_sumR (hm.ch _ (getD_mem hi)) (hm.w _ (getD_mem hi))
/-- the chances of the observations add up -/
theorem chances_sum {m : List (List Rat)} {b : List Rat} (hm : VM m) (hb : b.length = m.length) (hch : Ch b) : sumR (wd m) (fun j => (sharesV m b j).sum) = 1 := by
  rw [sumR_congr (g := fun j => sumR m.length fun i => b.getD i 0 * (m.getD i []).getD j 0) fun j _ => share_sum hb, sumR_comm]
  rw [sumR_congr (g := fun i => b.getD i 0) fun i hi => by rw [sumR_mul, row_sum hm hi, Rat.mul_one]]
  exact ch_sumR hch hb
theorem shares_nn {m : List (List Rat)} {b : List Rat} {j : Nat} (hm : ∀ r ∈ m, Ch r) (hb : Ch b) : ∀ q ∈ sharesV m b j, 0 ≤ q := by
  intro q hq
  obtain ⟨⟨x, r⟩, hp, rfl⟩ := List.mem_map.mp hq
  exact Rat.mul_nonneg (hb.1 x (List.of_mem_zip hp).1) (ch_getD (hm r (List.of_mem_zip hp).2))
theorem sum_nn : ∀ {l : List Rat}, (∀ q ∈ l, 0 ≤ q) → 0 ≤ l.sum
  | [], _ => by simp
  | a :: r, h => by
    rw [List.sum_cons]
    exact Rat.add_nonneg (h a List.mem_cons_self) (sum_nn fun q hq => h q (List.mem_cons_of_mem _ hq))
theorem div_sum {l : List Rat} {s : Rat} : (l.map fun q => q / s).sum = l.sum / s := by
  induction l with
  | nil => simp [Rat.div_def]
  | cons a r ih => rw [List.map_cons, List.sum_cons, List.sum_cons, ih, Rat.div_def, Rat.div_def, Rat.div_def, Rat.add_mul]
/-- the belief after an observation is one -/
theorem after_ch {m : List (List Rat)} {b l : List Rat} {j : Nat} (hm : ∀ r ∈ m, Ch r) (hb : Ch b) (h : afterV m b j = some l) : Ch l ∧ l.length = (sharesV m b j).length := by
  unfold afterV at h
  split at h
  · cases h
  · rename_i h0
    cases h
    have hs := sum_nn (shares_nn (j := j) hm hb)
    have hp : 0 < (sharesV m b j).sum := Rat.lt_of_le_of_ne hs (Ne.symm h0)
    refine ⟨⟨fun q hq => ?_, ?_⟩, by simp⟩
    · obtain ⟨p, hp', rfl⟩ := List.mem_map.mp hq
      rw [Rat.div_def]
      exact Rat.mul_nonneg (shares_nn hm hb p hp') (Rat.le_of_lt (Rat.inv_pos.mpr hp))
    · rw [div_sum, Rat.div_def, Rat.mul_inv_cancel _ h0]
end Mn

/-! Plain: law k06. -/
local macro_rules
  | `(tactic| simp_arith only [$args,*]) => `(tactic| simp only [↓Mn.tcaseB_bl, ↓Mn.cps_ok, ↓Mn.cps_exc, ↓Mn.cps_stuck, ↓Mn.bind_is, ↓Mn.st_is, ↓Mn.only_is, ↓Mn.cps_cps, ↓Mn.bind_cps, ↓Mn.tcase_some, ↓Mn.cps_ite, ↓Mn.rdV_some, ↓Mn.ev_var, ↓Mn.ev_frz, ↓Mn.ev_cst, ↓Mn.ev_tup, ↓Mn.ev_lst, ↓Mn.ev_bin, ↓Mn.ev_neg, ↓Mn.ev_not, ↓Mn.ev_cmp, ↓Mn.ev_chain, ↓Mn.ev_ite, ↓Mn.ev_and, ↓Mn.ev_or, ↓Mn.ev_a1, ↓Mn.ev_r1, ↓Mn.ev_a2, ↓Mn.ev_r2, ↓Mn.ev_ix, ↓Mn.ev_sl, ↓Mn.ev_rev, ↓Mn.ev_call, ↓Mn.ev_bi, ↓Mn.ev_isi, ↓Mn.ev_bm, ↓Mn.ev_lc, ↓Mn.ev_nil, ↓Mn.ev_cons, ↓Mn.ev_o0, ↓Mn.ev_o1, ↓Mn.ev_iexp, ↓Mn.ev_irng1, ↓Mn.ev_irng2, ↓Mn.ev_ienum, ↓Mn.ev_izip, ↓Mn.tcase_bl, ↓Mn.tcase_int, ↓Mn.tcase_non, ↓Mn.tcase_tup, ↓Mn.tcase_lst, ↓Mn.tcase_scr, ↓Mn.bin_add_c, ↓Mn.bin_sub_c, ↓Mn.neg_int_c, ↓Mn.cmp_lt_c, ↓Mn.cmp_le_c, ↓Mn.cmp_gt_c, ↓Mn.cmp_ge_c, ↓Mn.cmp_eqi_c, ↓Mn.cmp_nei_c, ↓Mn.itr_tup_c, ↓Mn.itr_lst_c, ↓Mn.itr_scr_c, ↓Mn.len_seq_c, ↓Mn.len_lst_c, ↓Mn.len_scr_c, ↓Mn.bi_abs_c, ↓Mn.ofO_some_c, ↓Mn.newT_0_c, ↓Mn.newL_0_c, ↓Mn.newT_1_c, ↓Mn.newL_1_c, ↓Mn.newT_2_c, ↓Mn.newL_2_c, ↓Mn.newT_3_c, ↓Mn.newL_3_c, ↓Mn.newT_4_c, ↓Mn.newL_4_c, ↓Mn.newT_5_c, ↓Mn.newL_5_c, ↓Mn.newT_6_c, ↓Mn.newL_6_c, ↓Mn.newT_7_c, ↓Mn.newL_7_c, ↓Mn.newT_8_c, ↓Mn.newL_8_c, ↓Mn.newT_9_c, ↓Mn.newL_9_c, ↓Mn.isi_non_int_c, ↓Mn.isi_non_bool_c, ↓Mn.isi_non_str_c, ↓Mn.isi_non_tuple_c, ↓Mn.isi_non_list_c, ↓Mn.isi_bl_int_c, ↓Mn.isi_bl_bool_c, ↓Mn.isi_bl_str_c, ↓Mn.isi_bl_tuple_c, ↓Mn.isi_bl_list_c, ↓Mn.isi_int_int_c, ↓Mn.isi_int_bool_c, ↓Mn.isi_int_str_c, ↓Mn.isi_int_tuple_c, ↓Mn.isi_int_list_c, ↓Mn.isi_str_int_c, ↓Mn.isi_str_bool_c, ↓Mn.isi_str_str_c, ↓Mn.isi_str_tuple_c, ↓Mn.isi_str_list_c, ↓Mn.isi_tup_int_c, ↓Mn.isi_tup_bool_c, ↓Mn.isi_tup_str_c, ↓Mn.isi_tup_tuple_c, ↓Mn.isi_tup_list_c, ↓Mn.isi_lst_int_c, ↓Mn.isi_lst_bool_c, ↓Mn.isi_lst_str_c, ↓Mn.isi_lst_tuple_c, ↓Mn.isi_lst_list_c, ↓Mn.ix_t0_c, ↓Mn.ix_t1_c, ↓Mn.ix_l0_c, ↓Mn.ix_l1_c, ↓Mn.wp_nx, ↓Mn.wp_rt, ↓Mn.wp_exc, ↓Mn.wp_stuck, ↓Mn.wp_ite, ↓Mn.wpV_zero, ↓Mn.wpV_succ, ↓Mn.wpB_one, ↓Mn.wpB_2, ↓Mn.wpB_3, ↓Mn.wp_nil, ↓Mn.wp_cons, ↓Mn.wp_asg, ↓Mn.wp_put, ↓Mn.wp_asgT, ↓Mn.wp_tupS, ↓Mn.wp_ts0, ↓Mn.wp_tsV, ↓Mn.wp_tsS, ↓Mn.wp_par, ↓Mn.wp_expr, ↓Mn.wp_ret, ↓Mn.wp_if, ↓Mn.wp_for, ↓Mn.wp_while, ↓Mn.wp_rais, ↓Mn.wp_try, ↓Mn.hnd_cons, ↓Mn.enum_c, ↓Mn.enumL_c, ↓Mn.tuple_c, ↓Mn.tupleT_c, ↓Mn.fr_ix0, ↓Mn.fr_ix1, ↓Mn.eq_fr_c, ↓Mn.ne_fr_c, ↓Mn.ix_row, ↓Mn.len_row, ↓Mn.len_mdl, ↓Mn.len_los, ↓Mn.ix_mdl0, ↓Mn.isi_row_tuple, ↓Mn.cmp_is_c, ↓Mn.cmp_isnot_c, ↓Mn.cell_tup_c, ↓Mn.newL_nil_c, ↓Mn.slT_1, ↓Mn.slT_t1, ↓Mn.slT_t2, ↓Mn.slT_t4, ↓Mn.slT_l, ↓Mn.listT_c, ↓Mn.listL_c, ↓Mn.itr_rowD, ↓Mn.enum_rowD, ↓Mn.sl_rowD_1, ↓Mn.sl_rowD_t1, ↓Mn.sl_rowD_t2, ↓Mn.sl_rowD_t4, ↓Mn.sl_rowD_l, ↓Mn.list_rowD, ↓Mn.itr_mdl, ↓Mn.enum_mdl, ↓Mn.sl_mdl_1, ↓Mn.sl_mdl_t1, ↓Mn.sl_mdl_t2, ↓Mn.sl_mdl_t4, ↓Mn.sl_mdl_l, ↓Mn.list_mdl, ↓Mn.itr_losD, ↓Mn.enum_losD, ↓Mn.sl_losD_1, ↓Mn.sl_losD_t1, ↓Mn.sl_losD_t2, ↓Mn.sl_losD_t4, ↓Mn.sl_losD_l, ↓Mn.list_losD, ↓Mn.itr_intsD, ↓Mn.enum_intsD, ↓Mn.sl_intsD_1, ↓Mn.sl_intsD_t1, ↓Mn.sl_intsD_t2, ↓Mn.sl_intsD_t4, ↓Mn.sl_intsD_l, ↓Mn.list_intsD, ↓Mn.len_intsD, ↓Mn.itr_natsD, ↓Mn.enum_natsD, ↓Mn.sl_natsD_1, ↓Mn.sl_natsD_t1, ↓Mn.sl_natsD_t2, ↓Mn.sl_natsD_t4, ↓Mn.sl_natsD_l, ↓Mn.list_natsD, ↓Mn.len_natsD, ↓Mn.nebl_c, ↓Mn.nes_InvalidModel, ↓Mn.eqs_InvalidModel, ↓Mn.nes_InvalidLosses, ↓Mn.eqs_InvalidLosses, ↓Mn.nes_InvalidRule, ↓Mn.eqs_InvalidRule, ↓Mn.nes_InvalidMixed, ↓Mn.eqs_InvalidMixed, ↓Mn.nes_InvalidBelief, ↓Mn.eqs_InvalidBelief, ↓Mn.nes_InvalidObservation, ↓Mn.eqs_InvalidObservation, ↓Mn.nes_InvalidGrouping, ↓Mn.eqs_InvalidGrouping, ↓Mn.nes_NotSufficient, ↓Mn.eqs_NotSufficient, ↓Mn.nes_InvalidNumbers, ↓Mn.eqs_InvalidNumbers, ↓Mn.nes_InvalidEstimate, ↓Mn.eqs_InvalidEstimate, ↓Mn.nes_InvalidState, ↓Mn.eqs_InvalidState, ↓Mn.nes_ZeroChance, ↓Mn.eqs_ZeroChance, ↓Mn.nes_NoEstimate, ↓Mn.eqs_NoEstimate, ↓Mn.nes_UnlikeStates, ↓Mn.eqs_UnlikeStates, ↓Mn.nes_TooLarge, ↓Mn.eqs_TooLarge, ↓Mn.nes_InvalidTable, ↓Mn.eqs_InvalidTable, ↓Mn.nes_Impossible, ↓Mn.eqs_Impossible, ↓Mn.nes_NothingToUndo, ↓Mn.eqs_NothingToUndo, ↓Mn.nes_ParseError, ↓Mn.eqs_ParseError, ↓Mn.ck_c, Mn.truD_bl, Mn.truD_int, Mn.truD_non, Mn.truD_tup, Mn.truD_lst, Mn.truD_scr, Mn.tru1_bl, Mn.tru1_int, Mn.shaped_int, Mn.eqv_int, Mn.sq_tup, Mn.sq_lst, Mn.sq_scr, Mn.lst_lst, Mn.at_0, Mn.at_1, Mn.take_self, Mn.take_app, Mn.isNon_non, Mn.isNon_bl, Mn.isNon_int, Mn.isNon_str, Mn.isNon_tup, Mn.isNon_lst, Mn.isNon_fr, Mn.isNon_row, Mn.isNon_mdl, Mn.cell_at, Mn.cell_lst, Mn.intO_n, Mn.intO_i, Mn.isSome_s, Mn.isNon_intsD, Mn.isNon_natsD, Mn.nl_mdl, Mn.nl_row, Mn.nl_los, Mn.nl_ints, Mn.wd_mdl, Mn.orv_ok, Mn.frOf_fr, Mn.rowOf_row, Mn.mdlOf_mdl, Mn.intsOf_ints, Mn.losOf_los, List.getElem?_cons_zero, List.getElem?_cons_succ, ↓reduceIte, List.map_cons, List.map_nil, List.replicate, List.append, List.cons_append, List.nil_append, List.length_cons, List.length_nil, Nat.reduceSub, Nat.reduceAdd, Nat.sub_self, Bool.false_eq_true, Bool.not_true, Bool.not_false, decide_true, decide_false, List.length_map, bne_self_eq_false, and_true, true_and, and_self, $args,*])
  | `(tactic| simp_arith only) => `(tactic| simp only [↓Mn.tcaseB_bl, ↓Mn.cps_ok, ↓Mn.cps_exc, ↓Mn.cps_stuck, ↓Mn.bind_is, ↓Mn.st_is, ↓Mn.only_is, ↓Mn.cps_cps, ↓Mn.bind_cps, ↓Mn.tcase_some, ↓Mn.cps_ite, ↓Mn.rdV_some, ↓Mn.ev_var, ↓Mn.ev_frz, ↓Mn.ev_cst, ↓Mn.ev_tup, ↓Mn.ev_lst, ↓Mn.ev_bin, ↓Mn.ev_neg, ↓Mn.ev_not, ↓Mn.ev_cmp, ↓Mn.ev_chain, ↓Mn.ev_ite, ↓Mn.ev_and, ↓Mn.ev_or, ↓Mn.ev_a1, ↓Mn.ev_r1, ↓Mn.ev_a2, ↓Mn.ev_r2, ↓Mn.ev_ix, ↓Mn.ev_sl, ↓Mn.ev_rev, ↓Mn.ev_call, ↓Mn.ev_bi, ↓Mn.ev_isi, ↓Mn.ev_bm, ↓Mn.ev_lc, ↓Mn.ev_nil, ↓Mn.ev_cons, ↓Mn.ev_o0, ↓Mn.ev_o1, ↓Mn.ev_iexp, ↓Mn.ev_irng1, ↓Mn.ev_irng2, ↓Mn.ev_ienum, ↓Mn.ev_izip, ↓Mn.tcase_bl, ↓Mn.tcase_int, ↓Mn.tcase_non, ↓Mn.tcase_tup, ↓Mn.tcase_lst, ↓Mn.tcase_scr, ↓Mn.bin_add_c, ↓Mn.bin_sub_c, ↓Mn.neg_int_c, ↓Mn.cmp_lt_c, ↓Mn.cmp_le_c, ↓Mn.cmp_gt_c, ↓Mn.cmp_ge_c, ↓Mn.cmp_eqi_c, ↓Mn.cmp_nei_c, ↓Mn.itr_tup_c, ↓Mn.itr_lst_c, ↓Mn.itr_scr_c, ↓Mn.len_seq_c, ↓Mn.len_lst_c, ↓Mn.len_scr_c, ↓Mn.bi_abs_c, ↓Mn.ofO_some_c, ↓Mn.newT_0_c, ↓Mn.newL_0_c, ↓Mn.newT_1_c, ↓Mn.newL_1_c, ↓Mn.newT_2_c, ↓Mn.newL_2_c, ↓Mn.newT_3_c, ↓Mn.newL_3_c, ↓Mn.newT_4_c, ↓Mn.newL_4_c, ↓Mn.newT_5_c, ↓Mn.newL_5_c, ↓Mn.newT_6_c, ↓Mn.newL_6_c, ↓Mn.newT_7_c, ↓Mn.newL_7_c, ↓Mn.newT_8_c, ↓Mn.newL_8_c, ↓Mn.newT_9_c, ↓Mn.newL_9_c, ↓Mn.isi_non_int_c, ↓Mn.isi_non_bool_c, ↓Mn.isi_non_str_c, ↓Mn.isi_non_tuple_c, ↓Mn.isi_non_list_c, ↓Mn.isi_bl_int_c, ↓Mn.isi_bl_bool_c, ↓Mn.isi_bl_str_c, ↓Mn.isi_bl_tuple_c, ↓Mn.isi_bl_list_c, ↓Mn.isi_int_int_c, ↓Mn.isi_int_bool_c, ↓Mn.isi_int_str_c, ↓Mn.isi_int_tuple_c, ↓Mn.isi_int_list_c, ↓Mn.isi_str_int_c, ↓Mn.isi_str_bool_c, ↓Mn.isi_str_str_c, ↓Mn.isi_str_tuple_c, ↓Mn.isi_str_list_c, ↓Mn.isi_tup_int_c, ↓Mn.isi_tup_bool_c, ↓Mn.isi_tup_str_c, ↓Mn.isi_tup_tuple_c, ↓Mn.isi_tup_list_c, ↓Mn.isi_lst_int_c, ↓Mn.isi_lst_bool_c, ↓Mn.isi_lst_str_c, ↓Mn.isi_lst_tuple_c, ↓Mn.isi_lst_list_c, ↓Mn.ix_t0_c, ↓Mn.ix_t1_c, ↓Mn.ix_l0_c, ↓Mn.ix_l1_c, ↓Mn.wp_nx, ↓Mn.wp_rt, ↓Mn.wp_exc, ↓Mn.wp_stuck, ↓Mn.wp_ite, ↓Mn.wpV_zero, ↓Mn.wpV_succ, ↓Mn.wpB_one, ↓Mn.wpB_2, ↓Mn.wpB_3, ↓Mn.wp_nil, ↓Mn.wp_cons, ↓Mn.wp_asg, ↓Mn.wp_put, ↓Mn.wp_asgT, ↓Mn.wp_tupS, ↓Mn.wp_ts0, ↓Mn.wp_tsV, ↓Mn.wp_tsS, ↓Mn.wp_par, ↓Mn.wp_expr, ↓Mn.wp_ret, ↓Mn.wp_if, ↓Mn.wp_for, ↓Mn.wp_while, ↓Mn.wp_rais, ↓Mn.wp_try, ↓Mn.hnd_cons, ↓Mn.enum_c, ↓Mn.enumL_c, ↓Mn.tuple_c, ↓Mn.tupleT_c, ↓Mn.fr_ix0, ↓Mn.fr_ix1, ↓Mn.eq_fr_c, ↓Mn.ne_fr_c, ↓Mn.ix_row, ↓Mn.len_row, ↓Mn.len_mdl, ↓Mn.len_los, ↓Mn.ix_mdl0, ↓Mn.isi_row_tuple, ↓Mn.cmp_is_c, ↓Mn.cmp_isnot_c, ↓Mn.cell_tup_c, ↓Mn.newL_nil_c, ↓Mn.slT_1, ↓Mn.slT_t1, ↓Mn.slT_t2, ↓Mn.slT_t4, ↓Mn.slT_l, ↓Mn.listT_c, ↓Mn.listL_c, ↓Mn.itr_rowD, ↓Mn.enum_rowD, ↓Mn.sl_rowD_1, ↓Mn.sl_rowD_t1, ↓Mn.sl_rowD_t2, ↓Mn.sl_rowD_t4, ↓Mn.sl_rowD_l, ↓Mn.list_rowD, ↓Mn.itr_mdl, ↓Mn.enum_mdl, ↓Mn.sl_mdl_1, ↓Mn.sl_mdl_t1, ↓Mn.sl_mdl_t2, ↓Mn.sl_mdl_t4, ↓Mn.sl_mdl_l, ↓Mn.list_mdl, ↓Mn.itr_losD, ↓Mn.enum_losD, ↓Mn.sl_losD_1, ↓Mn.sl_losD_t1, ↓Mn.sl_losD_t2, ↓Mn.sl_losD_t4, ↓Mn.sl_losD_l, ↓Mn.list_losD, ↓Mn.itr_intsD, ↓Mn.enum_intsD, ↓Mn.sl_intsD_1, ↓Mn.sl_intsD_t1, ↓Mn.sl_intsD_t2, ↓Mn.sl_intsD_t4, ↓Mn.sl_intsD_l, ↓Mn.list_intsD, ↓Mn.len_intsD, ↓Mn.itr_natsD, ↓Mn.enum_natsD, ↓Mn.sl_natsD_1, ↓Mn.sl_natsD_t1, ↓Mn.sl_natsD_t2, ↓Mn.sl_natsD_t4, ↓Mn.sl_natsD_l, ↓Mn.list_natsD, ↓Mn.len_natsD, ↓Mn.nebl_c, ↓Mn.nes_InvalidModel, ↓Mn.eqs_InvalidModel, ↓Mn.nes_InvalidLosses, ↓Mn.eqs_InvalidLosses, ↓Mn.nes_InvalidRule, ↓Mn.eqs_InvalidRule, ↓Mn.nes_InvalidMixed, ↓Mn.eqs_InvalidMixed, ↓Mn.nes_InvalidBelief, ↓Mn.eqs_InvalidBelief, ↓Mn.nes_InvalidObservation, ↓Mn.eqs_InvalidObservation, ↓Mn.nes_InvalidGrouping, ↓Mn.eqs_InvalidGrouping, ↓Mn.nes_NotSufficient, ↓Mn.eqs_NotSufficient, ↓Mn.nes_InvalidNumbers, ↓Mn.eqs_InvalidNumbers, ↓Mn.nes_InvalidEstimate, ↓Mn.eqs_InvalidEstimate, ↓Mn.nes_InvalidState, ↓Mn.eqs_InvalidState, ↓Mn.nes_ZeroChance, ↓Mn.eqs_ZeroChance, ↓Mn.nes_NoEstimate, ↓Mn.eqs_NoEstimate, ↓Mn.nes_UnlikeStates, ↓Mn.eqs_UnlikeStates, ↓Mn.nes_TooLarge, ↓Mn.eqs_TooLarge, ↓Mn.nes_InvalidTable, ↓Mn.eqs_InvalidTable, ↓Mn.nes_Impossible, ↓Mn.eqs_Impossible, ↓Mn.nes_NothingToUndo, ↓Mn.eqs_NothingToUndo, ↓Mn.nes_ParseError, ↓Mn.eqs_ParseError, ↓Mn.ck_c, Mn.truD_bl, Mn.truD_int, Mn.truD_non, Mn.truD_tup, Mn.truD_lst, Mn.truD_scr, Mn.tru1_bl, Mn.tru1_int, Mn.shaped_int, Mn.eqv_int, Mn.sq_tup, Mn.sq_lst, Mn.sq_scr, Mn.lst_lst, Mn.at_0, Mn.at_1, Mn.take_self, Mn.take_app, Mn.isNon_non, Mn.isNon_bl, Mn.isNon_int, Mn.isNon_str, Mn.isNon_tup, Mn.isNon_lst, Mn.isNon_fr, Mn.isNon_row, Mn.isNon_mdl, Mn.cell_at, Mn.cell_lst, Mn.intO_n, Mn.intO_i, Mn.isSome_s, Mn.isNon_intsD, Mn.isNon_natsD, Mn.nl_mdl, Mn.nl_row, Mn.nl_los, Mn.nl_ints, Mn.wd_mdl, Mn.orv_ok, Mn.frOf_fr, Mn.rowOf_row, Mn.mdlOf_mdl, Mn.intsOf_ints, Mn.losOf_los, List.getElem?_cons_zero, List.getElem?_cons_succ, ↓reduceIte, List.map_cons, List.map_nil, List.replicate, List.append, List.cons_append, List.nil_append, List.length_cons, List.length_nil, Nat.reduceSub, Nat.reduceAdd, Nat.sub_self, Bool.false_eq_true, Bool.not_true, Bool.not_false, decide_true, decide_false, List.length_map, bne_self_eq_false, and_true, true_and, and_self])
namespace Mn
open PySem
theorem mulL_c {β : Type} {a : List D} {j : Nat} (h : a.length * j ≤ 10000) (hj : j ≤ 1000) (ha2 : a.length ≤ 1000) {S : Store} {k : D → Store → β} {x : Nat → Store → β} {z : β} : (binD false .mul (.lst a) (.int (j : Nat)) S).cps k x z = k (.lst (List.replicate j a).flatten) S := by
  refine cps_of ?_
  show (if 0 ≤ ((j : Nat) : Int) ∧ ((j : Nat) : Int) ≤ 1000 ∧ a.length ≤ 1000 then newL false (List.replicate ((j : Nat) : Int).toNat a).flatten S else .stuck) = _
  rw [if_pos ⟨by omega, by omega, ha2⟩]
  rw [show ((j : Nat) : Int).toNat = j by simp]
  exact newL_ok (by simp [List.length_flatten, Nat.mul_comm]; exact line_le (by rw [Nat.mul_comm]; omega))
theorem notin_nats {β : Type} {l : List Nat} {a : Nat} {S : Store} {k : D → Store → β} {x : Nat → Store → β} {z : β} : (cmpD .notin (.int (a : Nat)) (natsL l) S).cps k x z = k (.bl (tv (a ∉ l))) S := by
  refine cps_of ?_
  have h1 : (l.map fun a : Nat => D.int (a : Nat)).all flatD = true := by
    rw [List.all_map]; exact List.all_eq_true.mpr fun _ _ => rfl
  show (if (flatD (.int (a : Nat)) && (l.map fun a : Nat => D.int (a : Nat)).all flatD) = true then Res.ok (D.bl (!(l.map fun a : Nat => D.int (a : Nat)).any fun d => eqFlat d (.int (a : Nat)))) S else .stuck) = _
  rw [h1]
  simp only [flatD, Bool.and_self, if_true]
  congr 2
  symm
  refine tv_eq ?_
  rw [Bool.not_eq_true', List.any_map, List.any_eq_false]
  constructor
  · intro h hm
    have := h a hm
    simp [Function.comp, eqFlat, D.py] at this
  · intro h b hb
    simp only [Function.comp, eqFlat, D.py, eqv_int, decide_eq_true_eq]
    intro e
    have : b = a := by omega
    exact h (this ▸ hb)
end Mn
namespace K06
open PySem Mn Lb
theorem only_best_c {m : List (List Rat)} {ls : List (List Int)} {l : List Rat} {x : List (List Rat)} {S : Store} (hm : Md 7 m) (vl : VL m.length ls) (bl : Bd 7 m.length l) (hx : VX (wd m) ls.length x) :
    d__law_only_best 0 [mdl m, losD ls, rowD l, mdl x] S = .ok (.bl (tv (∀ j, j < wd m → ∀ a, a < ls.length → 0 < (x.getD j []).getD a 0 → a ∈ findV ls (sharesV m l j)))) S := by
  have h3 := hm.v.n3
  have h6 := hm.v.w6
  have hl3 := vl.n3
  have pm := hm.pd
  have pl := vl.pd (show m.length ≤ 10 by omega)
  have pb := bl.pd (show m.length ≤ 10 by omega)
  have is := hm.is
  have il : Mn.IsL (nl (mdl m)) (losD ls) := by rw [nl_mdl]; exact vl.is
  have ib : IsCh (nl (mdl m)) (nl (mdl m)) (rowD l) := by rw [nl_mdl]; exact bl.is
  have hw : (m.headD []).length = wd m := rfl
  refine run_eq rfl rfl ?_
  unfold b__law_only_best
  simp_arith only [ix_mdl hm.v.ne, hw, rng1_c (show wd m ≤ 1000000 by omega)]
  refine for_wp (fun pre ρ S' => S' = S ∧ (∃ o4 o5 o6, ρ = [some (mdl m), some (losD ls), some (rowD l), some (mdl x), o4, o5, o6]) ∧ ∀ j, j < pre.length → ∀ a, a < ls.length → 0 < (x.getD j []).getD a 0 → a ∈ findV ls (sharesV m l j)) (fun _ _ _ _ => rfl) ⟨rfl, ⟨_, _, _, rfl⟩, fun j hj => absurd hj (Nat.not_lt_zero _)⟩ ?_ ?_
  · rintro pre j post e ρ S' ⟨rfl, ⟨o4, o5, o6, rfl⟩, hpre⟩
    obtain ⟨rfl, hj⟩ := range_split e
    generalize hjj : pre.length = j at *
    have pj : Pd (.int (j : Nat)) := pd_int (by omega)
    have io : IsO (nl (it0 (mdl m))) (.int (j : Nat)) := ⟨j, rfl, by rw [wd_mdl]; exact hj⟩
    have e1 : ∀ {b}, d_best_actions b [mdl m, losD ls, rowD l, .int (j : Nat)] S' = .ok (natsL (findV ls (sharesV m l j))) S' := fun {b} => by
      rw [best_actions_e pm pl pb pj, ck_ok is, ck_ok il, ck_ok ib, ck_ok io, mdlOf_mdl, rowOf_row, losOf_los]
      rfl
    have hxj := hx.2 _ (getD_mem (d := []) (show j < x.length by rw [hx.1]; exact hj))
    simp_arith only [e1, rng1_c (show ls.length ≤ 1000000 by omega)]
    refine lc_if (fun a : Nat => tv (0 < (x.getD j []).getD a 0 ∧ a ∉ findV ls (sharesV m l j))) (fun a : Nat => D.int (a : Nat)) rfl (by simp; exact line_le (by omega)) ?_ ?_
    · intro a ha
      have ha : a < ls.length := List.mem_range.mp ha
      simp_arith only [wipe_1, List.set_cons_succ, List.set_cons_zero, ix_mdl_c (show j < x.length by rw [hx.1]; exact hj), ix_row_d (show a < (x.getD j []).length by rw [hxj.1]; exact ha), num_pos, notin_nats]
      by_cases q1 : 0 < (x.getD j []).getD a 0
      · by_cases q2 : a ∉ findV ls (sharesV m l j)
        · simp_arith only [tv_of q1, tv_of q2, tv_of (And.intro q1 q2)]
        · simp_arith only [tv_of q1, tv_no q2, tv_no (show ¬ (0 < (x.getD j []).getD a 0 ∧ a ∉ findV ls (sharesV m l j)) from fun h => q2 h.2)]
      · simp_arith only [tv_no q1, tv_no (show ¬ (0 < (x.getD j []).getD a 0 ∧ a ∉ findV ls (sharesV m l j)) from fun h => q1 h.1)]
    · rw [newL_c (filt_len' (by simp; omega))]
      simp_arith only
      cases hemp : (((List.range ls.length).filter fun a : Nat => tv (0 < (x.getD j []).getD a 0 ∧ a ∉ findV ls (sharesV m l j))).map fun a : Nat => D.int (a : Nat)).isEmpty with
      | true =>
        simp_arith only
        rw [List.isEmpty_iff, List.map_eq_nil_iff, List.filter_eq_nil_iff] at hemp
        refine ⟨⟨_, _, _, rfl⟩, fun j' hj' a ha hp => ?_⟩
        by_cases hjj' : j' = j
        · subst hjj'
          have := hemp a (List.mem_range.mpr ha)
          by_cases hmem : a ∈ findV ls (sharesV m l j')
          · exact hmem
          · rw [tv_of (And.intro hp hmem)] at this; exact absurd rfl this
        · exact hpre j' (by simp at hj'; omega) a ha hp
      | false =>
        simp_arith only
        rw [tv_no]
        intro hall
        rw [List.isEmpty_eq_false_iff] at hemp
        obtain ⟨d, hd⟩ := List.exists_mem_of_ne_nil _ hemp
        obtain ⟨a, ha, _⟩ := List.mem_map.mp hd
        obtain ⟨h1, h2⟩ := List.mem_filter.mp ha
        have h2 := tv_true.mp h2
        exact h2.2 (hall j hj a (List.mem_range.mp h1) h2.1)
  · rintro ρ S' ⟨rfl, ⟨o4, o5, o6, rfl⟩, hpre⟩
    rw [List.length_range] at hpre
    simp_arith only
    rw [tv_of hpre]
theorem adds_up_c {m : List (List Rat)} {l : List Rat} {S : Store} (hm : Md 7 m) (bl : Bd 7 m.length l) : d__law_adds_up 0 [mdl m, rowD l] S = .ok (.bl true) S := by
  have h3 := hm.v.n3
  have h6 := hm.v.w6
  have hll := bl.w
  have pm := hm.pd
  have pb := bl.pd (show m.length ≤ 10 by omega)
  have is := hm.is
  have ib : IsCh (nl (mdl m)) (nl (mdl m)) (rowD l) := by rw [nl_mdl]; exact bl.is
  have hw : (m.headD []).length = wd m := rfl
  refine run_eq rfl rfl ?_
  unfold b__law_adds_up
  (try simp_arith only)
  rw [mulL_c (by simp; omega) (by omega) (by simp)]
  simp_arith only [ix_mdl hm.v.ne, hw, rng1_c (show wd m ≤ 1000000 by omega)]
  let sl : Nat → List Rat := fun k => (List.range m.length).map fun i => sumR k fun j => l.getD i 0 * (m.getD i []).getD j 0
  have hsl0 : (List.replicate l.length [D.tup [.int 0, .int 1]]).flatten = (sl 0).map fr := by
    have : sl 0 = List.replicate m.length 0 := by
      show (List.range m.length).map (fun i => sumR 0 _) = _
      simp only [sumR_0]
      rw [List.map_const', List.length_range]
    rw [this, hll, List.map_replicate]
    generalize m.length = n
    induction n with
    | zero => rfl
    | succ n ih => rw [List.replicate_succ, List.flatten_cons, ih, List.replicate_succ]; rfl
  rw [hsl0]
  have sls : ∀ k, (sl k).length = m.length := fun k => by simp [sl]
  have hz0 : ∀ {q : Rat} {S : Store}, cmpD .eq (fr q) (.tup [.int 0, .int 1]) S = .ok (.bl (tv (q = 0))) S := fun {q S} => eq_fr (q := 0)
  have ho0 : ∀ {q : Rat} {S : Store}, cmpD .eq (fr q) (.tup [.int 1, .int 1]) S = .ok (.bl (tv (q = 1))) S := fun {q S} => eq_fr (q := 1)
  have hz : D.tup [.int 0, .int 1] = fr 0 := rfl
  have ho : D.tup [.int 1, .int 1] = fr 1 := rfl
  rw [hz, ho]
  refine for_wp (fun pre ρ S' => S' = S ∧ (∃ o2 o5 o6 o7 o8, ρ = [some (mdl m), some (rowD l), o2, some (.lst ((sl pre.length).map fr)), some (fr (sumR pre.length fun j => (sharesV m l j).sum)), o5, o6, o7, o8]) ∧ Szs (1 + 110 * pre.length) (sl pre.length) ∧ Sz (1 + 50 * pre.length) (sumR pre.length fun j => (sharesV m l j).sum)) (fun _ _ _ _ => rfl) ⟨rfl, ⟨_, _, _, _, _, rfl⟩, fun q hq => ?_, sz_0 (by omega)⟩ ?_ ?_
  · obtain ⟨i, _, rfl⟩ := List.mem_map.mp hq
    exact sz_0 (by omega)
  · rintro pre j post e ρ S' ⟨rfl, ⟨o2, o5, o6, o7, o8, rfl⟩, hsz1, hsz2⟩
    obtain ⟨rfl, hj⟩ := range_split e
    have hpl : (pre ++ [pre.length]).length = pre.length + 1 := by simp
    rw [hpl]
    generalize hjj : pre.length = j at *
    have pj : Pd (.int (j : Nat)) := pd_int (by omega)
    have io : IsO (nl (it0 (mdl m))) (.int (j : Nat)) := ⟨j, rfl, by rw [wd_mdl]; exact hj⟩
    have hs := szs_shares (j := j) bl.s hm.s (by omega)
    have hl3 : (sharesV m l j).length ≤ 3 := shares_len (.inr h3)
    have hsum : Sz 46 (sharesV m l j).sum := sz_sum' hs hl3
    have hnn := shares_nn (j := j) hm.v.ch bl.c
    have e1 : ∀ {b}, d_chance b [mdl m, rowD l, .int (j : Nat)] S' = .ok (fr (sharesV m l j).sum) S' := fun {b} => by
      rw [chance_e pm pb pj, ck_ok is, ck_ok ib, ck_ok io, mdlOf_mdl, rowOf_row]
      rfl
    have e2 : ∀ {b}, d_after b [mdl m, rowD l, .int (j : Nat)] S' = .ok (optD (afterV m l j)) S' := fun {b} => by
      rw [after_e pm pb pj, ck_ok is, ck_ok ib, ck_ok io, mdlOf_mdl, rowOf_row]
      rfl
    have e3 : ∀ {b}, d__law_plus b [fr (sumR j fun j => (sharesV m l j).sum), fr (sharesV m l j).sum] S' = .ok (fr (sumR (j + 1) fun j => (sharesV m l j).sum)) S' := fun {b} => by
      rw [law_plus_c hsz2 hsum (by omega), sumR_s]
    have hsz2' : Sz (1 + 50 * (j + 1)) (sumR (j + 1) fun j => (sharesV m l j).sum) := by
      rw [sumR_s]
      exact (sz_add hsz2 hsum).mono (by omega)
    simp_arith only [e1, e2, e3]
    by_cases h0 : (sharesV m l j).sum = 0
    · have ha : optD (afterV m l j) = .non := by unfold afterV; rw [if_pos h0]; rfl
      have hsame : sl (j + 1) = sl j := by
        refine List.map_congr_left fun i hi => ?_
        have hi : i < m.length := List.mem_range.mp hi
        rw [sumR_s]
        have hz : sumR m.length (fun i => l.getD i 0 * (m.getD i []).getD j 0) = 0 := by rw [← share_sum hll]; exact h0
        have := (sumR_zero_iff (fun i hi => Rat.mul_nonneg (ch_getD bl.c) (ch_getD (hm.v.ch _ (getD_mem hi))))).mp hz i hi
        rw [this, Rat.add_zero]
      simp_arith only [ha, hz0, tv_of h0]
      exact ⟨⟨_, _, _, _, _, by rw [hsame]⟩, by rw [hsame]; exact szs_mono hsz1 (by omega), hsz2'⟩
    · have ha : afterV m l j = some ((sharesV m l j).map fun q => q / (sharesV m l j).sum) := by unfold afterV; rw [if_neg h0]
      obtain ⟨hch, hlen⟩ := after_ch hm.v.ch bl.c ha
      generalize hL : ((sharesV m l j).map fun q => q / (sharesV m l j).sum) = L at ha hch hlen
      have hLs : Szs 60 L := fun q hq => by
        rw [← hL] at hq
        obtain ⟨p, hp, rfl⟩ := List.mem_map.mp hq
        exact sz_div (hs p hp) hsum h0
      have hLl : L.length = m.length := by rw [hlen, shares_len' hll]
      have pL : Pd (rowD L) := Pb.mono (by decide) (pb_row hLs (by omega))
      have e4 : ∀ {b}, d_is_belief b [mdl m, rowD L] S' = .ok (.bl true) S' := fun {b} => by
        rw [is_belief_e pm pL, ck_ok is, nl_mdl, tv_of ⟨L, rfl, by omega, by omega, hch⟩]
      have ho : optD (some L) = rowD L := rfl
      simp_arith only [ha, ho, hz0, tv_no h0, e4]
      rw [zip_c (.inr rfl) sq_row]
      (try simp_arith only)
      refine lc_map (fun p : Rat × Rat => fr (p.1 + (sharesV m l j).sum * p.2)) rfl (by rw [List.length_zip]; exact line_le (by omega)) ?_ ?_
      · rintro ⟨p, q⟩ hpq
        have hp := (List.of_mem_zip hpq).1
        have hq := (List.of_mem_zip hpq).2
        simp_arith only [wipe_2, List.set_cons_succ, List.set_cons_zero]
        rw [law_times_c hsum (hLs q hq) (by omega)]
        simp_arith only
        rw [law_plus_c (hsz1 p hp) (sz_mul hsum (hLs q hq)) (by omega)]
        simp_arith only
      · have hnext : ((sl j).zip L).map (fun p : Rat × Rat => fr (p.1 + (sharesV m l j).sum * p.2)) = (sl (j + 1)).map fr := by
          have hLr : L = (List.range m.length).map fun i => l.getD i 0 * (m.getD i []).getD j 0 / (sharesV m l j).sum := by
            rw [← hL]
            generalize (sharesV m l j).sum = c
            rw [range_map (d := 0) (l := sharesV m l j)]
            rw [List.map_map, shares_len' hll]
            refine List.map_congr_left fun i hi => ?_
            simp only [Function.comp]
            rw [shares_getD hll (List.mem_range.mp hi)]
          rw [hLr]
          show (((List.range m.length).map fun i => sumR j fun j => l.getD i 0 * (m.getD i []).getD j 0).zip _).map _ = ((List.range m.length).map fun i => sumR (j + 1) fun j => l.getD i 0 * (m.getD i []).getD j 0).map fr
          rw [List.zip_map', List.map_map, List.map_map]
          refine List.map_congr_left fun i _ => ?_
          simp only [Function.comp]
          rw [sumR_s]
          congr 2
          rw [Rat.mul_comm, Rat.div_mul_cancel h0]
        have hsz' : Szs (1 + 110 * (j + 1)) (sl (j + 1)) := fun q hq => by
          have : fr q ∈ (sl (j + 1)).map fr := List.mem_map.mpr ⟨q, hq, rfl⟩
          rw [← hnext] at this
          obtain ⟨⟨p, r⟩, hpr, e⟩ := List.mem_map.mp this
          rw [← fr_inj e]
          exact (sz_add (hsz1 p (List.of_mem_zip hpr).1) (sz_mul hsum (hLs r (List.of_mem_zip hpr).2))).mono (by omega)
        rw [hnext, newL_c (by rw [List.length_map, sls]; exact line_le (by omega))]
        exact ⟨rfl, ⟨_, _, _, _, _, rfl⟩, hsz', hsz2'⟩
  · rintro ρ S' ⟨rfl, ⟨o2, o5, o6, o7, o8, rfl⟩, hsz1, hsz2⟩
    rw [List.length_range] at *
    have hone := chances_sum hm.v hll bl.c
    have hfin : sl (wd m) = l := by
      conv => rhs; rw [range_map (d := 0) (l := l), hll]
      refine List.map_congr_left fun i hi => ?_
      rw [sumR_mul, row_sum hm.v (List.mem_range.mp hi), Rat.mul_one]
    have e5 : cmpD .eq (.tup (l.map fr)) (rowD l) S' = .ok (.bl true) S' := by
      show cmpD .eq (rowD l) (rowD l) S' = _
      rw [cmp_eq_sd (n := 2) sd_rowD sd_rowD (by decide), tv_of rfl]
    simp_arith only [hone, hfin, ho0, tv_of trivial, e5]
theorem law_holds (ns : List Int) (hl : ns.length ≤ 63) (hb : ∀ z ∈ ns, Builtin.Int.intBits z ≤ 1048576) : ∃ S', Lb.d_law_k06 0 [scriptD ns] [] = .ok (.bl true) S' := by
  suffices h : (Lb.d_law_k06 0 [scriptD ns] []).W fun r S' => r = .bl true by
    obtain ⟨a, S', e, rfl⟩ := cps_ex h.cps
    exact ⟨S', e⟩
  refine run_W rfl ?_
  unfold b_law_k06
  have r8 := fun {S k x z} => (show (rng1D (.int 8) S).cps k x z = k ((List.range 8).map fun i => D.int (i : Nat), []) S from rng1_c (β := Prop) (n := 8) (by decide))
  simp_arith only [r8]
  refine for_wp (fun pre ρ S' => (∃ o2 o3 o4 o5 o6 o7 o8 o9 o10, ρ = [some (scriptD ns), some (.ref 0), o2, o3, o4, o5, o6, o7, o8, o9, o10]) ∧ St 0 (2000 * pre.length) S') (fun _ _ _ _ => rfl) ⟨⟨_, _, _, _, _, _, _, _, _, rfl⟩, [], rfl, .inl rfl, Nat.le_refl _⟩ ?_ ?_
  · rintro pre a post e ρ S ⟨⟨o2, o3, o4, o5, o6, o7, o8, o9, o10, rfl⟩, hst⟩
    obtain ⟨rfl, hlt⟩ := range_split e
    generalize hK : 2000 * pre.length = K at hst
    have hK2 : K ≤ 20000 := by omega
    (try simp_arith only)
    refine W_then (drawn_model (most := 5) hl hst (by omega) (by omega) (by omega)) ?_
    rintro _ S1 ⟨m, rfl, hm, hwd, hd1⟩
    have hm3 := hm.v.n3
    have hm2 := hm.v.n2
    have hw1 := hm.v.w1
    (try simp_arith only)
    refine W_then (drawn_losses hl hd1.st (by omega) (show m.length ≤ 8 by omega)) ?_
    rintro _ S2 ⟨ls, rfl, vl, _, hd2⟩
    have hl3 := vl.n3
    have hl1 := vl.n1
    (try simp_arith only)
    refine W_then (drawn_chances (m := m.length) hl hd2.st (by omega) (by omega) (by omega)) ?_
    rintro _ S3 ⟨l, rfl, bl, hd3⟩
    have hll := bl.w
    have pm := hm.pd
    have pl := vl.pd (show m.length ≤ 10 by omega)
    have pb := bl.pd (show m.length ≤ 10 by omega)
    have is := hm.is
    have il : Mn.IsL (nl (mdl m)) (losD ls) := by rw [nl_mdl]; exact vl.is
    have ib : IsCh (nl (mdl m)) (nl (mdl m)) (rowD l) := by rw [nl_mdl]; exact bl.is
    have qm : Pb 60 (mdl m) := Pb.mono (by decide) (pb_mdl (fun r hr => ⟨hm.s r hr, by rw [hm.v.w r hr]; omega⟩) (by omega))
    have qb : Pb 60 (rowD l) := Pb.mono (by decide) (pb_row bl.s (by omega))
    have e1 : ∀ {S}, d_least_risk 0 [mdl m, losD ls, rowD l] S = .ok (fr (lrV m ls l)) S := fun {S} => by
      rw [least_risk_e pm pl pb, ck_ok is, ck_ok il, ck_ok ib, mdlOf_mdl, rowOf_row, losOf_los]
    have e2 : ∀ {S}, d_best_rule 0 [mdl m, losD ls, rowD l] S = .ok (natsD (bestV m ls l)) S := fun {S} => by
      rw [best_rule_e pm pl pb, ck_ok is, ck_ok il, ck_ok ib, mdlOf_mdl, rowOf_row, losOf_los]
    have hbl : (bestV m ls l).length = wd m := bestV_len
    have hblt := bestV_lt (m := m) (b := l) vl.ne
    have pbest : Pd (natsD (bestV m ls l)) := pb_nats (fun i hi => Nat.lt_of_lt_of_le (hblt i hi) (Nat.le_trans (show ls.length ≤ 2 ^ 3 by omega) (Nat.pow_le_pow_right (by decide) (by decide)))) (by omega)
    have e3 : ∀ {S}, d_as_mixed 0 [mdl m, losD ls, natsD (bestV m ls l)] S = .ok (mdl ((bestV m ls l).map (unit ls.length))) S := fun {S} => by
      rw [as_mixed_e pm pl pbest, ck_ok is, ck_ok il, ck_ok (by rw [wd_mdl, nl_los]; exact ⟨_, rfl, hbl, hblt⟩), rlOf_nats, nl_los]
    have hX : Xd 7 (wd m) ls.length ((bestV m ls l).map (unit ls.length)) := ⟨⟨by simp [hbl], fun r hr => by
      obtain ⟨a, ha, rfl⟩ := List.mem_map.mp hr
      exact ⟨unit_len, unit_ch (hblt a ha)⟩⟩, fun r hr => by
      obtain ⟨a, ha, rfl⟩ := List.mem_map.mp hr
      exact szs_mono sz_unit (by omega), by omega⟩
    simp_arith only [adds_up_c hm bl, e1, e2, e3]
    refine W_then (drawn_mixed hl hd3.st (by omega) hm.v vl) ?_
    rintro _ S4 ⟨x1, rfl, hx1, hd4⟩
    (try simp_arith only)
    refine W_then (drawn_mixed hl hd4.st (by omega) hm.v vl) ?_
    rintro _ S5 ⟨x2, rfl, hx2, hd5⟩
    (try simp_arith only)
    have mean : ∀ {S : Store} {x : List (List Rat)}, Xd 7 (wd m) ls.length x → d_mean_risk 0 [mdl m, losD ls, rowD l, mdl x] S = .ok (fr (dot l (risksV m ls x))) S ∧ Sz 1200 (dot l (risksV m ls x)) := fun {S x} hx => by
      have qx : Pb 60 (mdl x) := Pb.mono (by decide) (pb_mdl (fun r hr => ⟨hx.s r hr, by rw [(hx.v.2 r hr).1]; omega⟩) (by rw [hx.v.1]; omega))
      have ix : IsX (nl (it0 (mdl m))) (nl (losD ls)) (mdl x) := by rw [wd_mdl, nl_los]; exact hx.is
      refine ⟨by rw [mean_risk_e qm pl qb qx, ck_ok is, ck_ok il, ck_ok ib, ck_ok ix, mdlOf_mdl, rowOf_row, losOf_los, mdlOf_mdl], ?_⟩
      exact (sz_dot bl.s (szs_risksV (a := 7) (c := 7) (w := 6) (k := 3) (fun r hr => ⟨hm.s r hr, by rw [hm.v.w r hr]; exact hm.v.w6⟩) hx.s vl.bt hl3) (.inl (show l.length ≤ 3 by omega))).mono (by omega)
    have slr : Sz 1200 (lrV m ls l) := (mean (S := []) hX).2
    refine forD_wp (fun _ ρ S' => S' = S5 ∧ ∃ o6 o9 o10, ρ = [some (scriptD ns), some (.ref 0), some (.int (pre.length : Nat)), some (mdl m), some (fr (lrV m ls l)), some (mdl ((bestV m ls l).map (unit ls.length))), o6, some (losD ls), some (rowD l), o9, o10]) (fun _ _ _ _ => rfl) ⟨rfl, _, _, _, rfl⟩ ?_ ?_
    · rintro pre' a post' e' ρ S' ⟨rfl, o6, o9, o10, rfl⟩
      obtain ⟨x, rfl, hx⟩ : ∃ x, a = mdl x ∧ Xd 7 (wd m) ls.length x := by
        have hin := mem_mid e'
        simp only [List.mem_cons, List.not_mem_nil, or_false] at hin
        rcases hin with rfl | rfl | rfl
        · exact ⟨_, rfl, hX⟩
        · exact ⟨_, rfl, hx1⟩
        · exact ⟨_, rfl, hx2⟩
      obtain ⟨g1, g2⟩ := mean (S := S') hx
      obtain ⟨q1, q2⟩ := mean_min hm.v vl hll hx.v
      have g3 := only_best_c (S := S') hm vl bl hx.v
      rw [← tv_iff q2] at g3
      have g4 : d__law_below 0 [fr (dot l (risksV m ls x)), fr (lrV m ls l)] S' = .ok (.bl false) S' := by
        rw [law_below_c g2 slr (by omega), decide_eq_false (Rat.not_lt.mpr q1)]
      simp_arith only [g1, g3, g4]
      exact ⟨_, _, _, rfl⟩
    · rintro ρ S' ⟨rfl, o6, o9, o10, rfl⟩
      obtain ⟨g1, g2⟩ := mean (S := S') hX
      have g5 : dot l (risksV m ls ((bestV m ls l).map (unit ls.length))) = lrV m ls l := rfl
      rw [g5] at g1
      simp_arith only [g1, tv_no (show ¬ (lrV m ls l ≠ lrV m ls l) from fun h => h rfl)]
      exact ⟨⟨_, _, _, _, _, _, _, _, _, rfl⟩, hd5.st.mono (by simp; omega)⟩
  · rintro ρ S' ⟨⟨o2, o3, o4, o5, o6, o7, o8, o9, o10, rfl⟩, hst⟩
    (try simp_arith only)
    exact rfl
end K06

open PySem PySem.W PyProof.Rows
set_option maxHeartbeats 0 in
theorem PySem.Challenge.cw_lossrules_k06_whole_beliefs_holds : PySem.Challenge.rw_lossrules_k06_whole_beliefs.Holds := by
  w_on; o_law; k_head; (case hw => w_witness2)
  k_fill
  refine L2.walk_ofB (l := PySem.Challenge.rw_lossrules_k06_whole_beliefs) (n := 63) (k := 11) (x := "_law_script") (CX := fun w => L2.CX PySem.Challenge.rw_lossrules_k06_whole_beliefs.prog w) (sp := fun w => Mn.spF _ (fun _ => 0) (fun i => List.getD [0, 37, 49, 61, 73, 85, 97, 0, 0, 0, 0, 0, 0, 0, 0, 0, 0, 0, 0, 0] i 0) Lb.d_law_k06 1) rfl (by decide) rfl ⟨rfl, by decide, by decide⟩ (fun w h Y => PySem.W.kIn_of Y) ?F (fun w H a ns hl hb hO hS => Mn.law_sp hO hS (K06.law_holds ns hl hb)) (fun w H s e s' h => by obtain ⟨_, _, _, _, _, _, _, _, _, _, _, _, q⟩ := h; exact q)
  case F =>
    intro w mg fa h KX G hmg
    refine' K06.at_law (K06.tab_mk KX G ?z0 ?z1 ?z2 ?z3 ?z4 ?z5 ?z6 ?z7 ?z8 ?z9 ?z10 ?z11 ?z12 ?z13 ?z14 ?z15 ?a0 ?l0 ?c0 ?k0 ?a1 ?l1 ?c1 ?k1 ?a2 ?l2 ?c2 ?k2 ?a3 ?l3 ?c3 ?k3 ?a4 ?l4 ?c4 ?k4 ?a5 ?l5 ?c5 ?k5 ?a6 ?l6 ?c6 ?k6 ?a7 ?l7 ?c7 ?k7 ?a8 ?l8 ?c8 ?k8 ?a9 ?l9 ?c9 ?k9 ?a10 ?l10 ?c10 ?k10 ?a11 ?l11 ?c11 ?k11 ?a12 ?l12 ?c12 ?k12 ?a13 ?l13 ?c13 ?k13 ?a14 ?l14 ?c14 ?k14 ?a15 ?l15 ?c15 ?k15 ?a16 ?l16 ?c16 ?k16 ?a17 ?l17 ?c17 ?k17 ?a18 ?l18 ?c18 ?k18 ?a19 ?l19 ?c19 ?k19 ?a20 ?l20 ?c20 ?k20 ?a21 ?l21 ?c21 ?k21 ?a22 ?l22 ?c22 ?k22 ?a23 ?l23 ?c23 ?k23 ?a24 ?l24 ?c24 ?k24 ?a25 ?l25 ?c25 ?k25 ?a26 ?l26 ?c26 ?k26 ?a27 ?l27 ?c27 ?k27 ?a28 ?l28 ?c28 ?k28 ?a29 ?l29 ?c29 ?k29 ?a30 ?l30 ?c30 ?k30 ?a31 ?l31 ?c31 ?k31 ?a32 ?l32 ?c32 ?k32 ?a33 ?l33 ?c33 ?k33 ?a34 ?l34 ?c34 ?k34 ?a35 ?l35 ?c35 ?k35 ?a36 ?l36 ?c36 ?k36 ?a37 ?l37 ?c37 ?k37 ?a38 ?l38 ?c38 ?k38 ?a39 ?l39 ?c39 ?k39 ?a40 ?l40 ?c40 ?k40 ?a41 ?l41 ?c41 ?k41 ?a42 ?l42 ?c42 ?k42 ?a43 ?l43 ?c43 ?k43 ?a44 ?l44 ?c44 ?k44 ?a45 ?l45 ?c45 ?k45 ?a46 ?l46 ?c46 ?k46 ?a47 ?l47 ?c47 ?k47 ?a48 ?l48 ?c48 ?k48 ?a49 ?l49 ?c49 ?k49 ?a50 ?l50 ?c50 ?k50 ?a51 ?l51 ?c51 ?k51 ?a52 ?l52 ?c52 ?k52 ?a53 ?l53 ?c53 ?k53 ?a54 ?l54 ?c54 ?k54 ?a55 ?l55 ?c55 ?k55 37 ?xa0 ?xq0 ?xk0 ?xs0 ?xt0 49 ?xa1 ?xq1 ?xk1 ?xs1 ?xt1 61 ?xa2 ?xq2 ?xk2 ?xs2 ?xt2 73 ?xa3 ?xq3 ?xk3 ?xs3 ?xt3 85 ?xa4 ?xq4 ?xk4 ?xs4 ?xt4 97 ?xa5 ?xq5 ?xk5 ?xs5 ?xt5 ?xe) hmg
    (case z0 => k_is); (case z1 => k_is); (case z2 => k_is); (case z3 => k_is); (case z4 => k_is); (case z5 => k_is); (case z6 => k_is); (case z7 => k_is); (case z8 => k_is); (case z9 => k_is); (case z10 => k_is); (case z11 => k_is); (case z12 => k_is); (case z13 => k_is); (case z14 => k_is); (case z15 => k_is); (case a0 => k_is); (case l0 => k_is); (case c0 => k_is); (case k0 => k_is); (case a1 => k_is); (case l1 => k_is); (case c1 => k_is); (case k1 => k_is); (case a2 => k_is); (case l2 => k_is); (case c2 => k_is); (case k2 => k_is); (case a3 => k_is); (case l3 => k_is); (case c3 => k_is); (case k3 => k_is); (case a4 => k_is); (case l4 => k_is); (case c4 => k_is); (case k4 => k_is); (case a5 => k_is); (case l5 => k_is); (case c5 => k_is); (case k5 => k_is); (case a6 => k_is); (case l6 => k_is); (case c6 => k_is); (case k6 => k_is); (case a7 => k_is); (case l7 => k_is); (case c7 => k_is); (case k7 => k_is); (case a8 => k_is); (case l8 => k_is); (case c8 => k_is); (case k8 => k_is); (case a9 => k_is); (case l9 => k_is); (case c9 => k_is); (case k9 => k_is); (case a10 => k_is); (case l10 => k_is); (case c10 => k_is); (case k10 => k_is); (case a11 => k_is); (case l11 => k_is); (case c11 => k_is); (case k11 => k_is); (case a12 => k_is); (case l12 => k_is); (case c12 => k_is); (case k12 => k_is); (case a13 => k_is); (case l13 => k_is); (case c13 => k_is); (case k13 => k_is); (case a14 => k_is); (case l14 => k_is); (case c14 => k_is); (case k14 => k_is); (case a15 => k_is); (case l15 => k_is); (case c15 => k_is); (case k15 => k_is); (case a16 => k_is); (case l16 => k_is); (case c16 => k_is); (case k16 => k_is); (case a17 => k_is); (case l17 => k_is); (case c17 => k_is); (case k17 => k_is); (case a18 => k_is); (case l18 => k_is); (case c18 => k_is); (case k18 => k_is); (case a19 => k_is); (case l19 => k_is); (case c19 => k_is); (case k19 => k_is); (case a20 => k_is); (case l20 => k_is); (case c20 => k_is); (case k20 => k_is); (case a21 => k_is); (case l21 => k_is); (case c21 => k_is); (case k21 => k_is); (case a22 => k_is); (case l22 => k_is); (case c22 => k_is); (case k22 => k_is); (case a23 => k_is); (case l23 => k_is); (case c23 => k_is); (case k23 => k_is); (case a24 => k_is); (case l24 => k_is); (case c24 => k_is); (case k24 => k_is); (case a25 => k_is); (case l25 => k_is); (case c25 => k_is); (case k25 => k_is); (case a26 => k_is); (case l26 => k_is); (case c26 => k_is); (case k26 => k_is); (case a27 => k_is); (case l27 => k_is); (case c27 => k_is); (case k27 => k_is); (case a28 => k_is); (case l28 => k_is); (case c28 => k_is); (case k28 => k_is); (case a29 => k_is); (case l29 => k_is); (case c29 => k_is); (case k29 => k_is); (case a30 => k_is); (case l30 => k_is); (case c30 => k_is); (case k30 => k_is); (case a31 => k_is); (case l31 => k_is); (case c31 => k_is); (case k31 => k_is); (case a32 => k_is); (case l32 => k_is); (case c32 => k_is); (case k32 => k_is); (case a33 => k_is); (case l33 => k_is); (case c33 => k_is); (case k33 => k_is); (case a34 => k_is); (case l34 => k_is); (case c34 => k_is); (case k34 => k_is); (case a35 => k_is); (case l35 => k_is); (case c35 => k_is); (case k35 => k_is); (case a36 => k_is); (case l36 => k_is); (case c36 => k_is); (case k36 => k_is); (case a37 => k_is); (case l37 => k_is); (case c37 => k_is); (case k37 => k_is); (case a38 => k_is); (case l38 => k_is); (case c38 => k_is); (case k38 => k_is); (case a39 => k_is); (case l39 => k_is); (case c39 => k_is); (case k39 => k_is); (case a40 => k_is); (case l40 => k_is); (case c40 => k_is); (case k40 => k_is); (case a41 => k_is); (case l41 => k_is); (case c41 => k_is); (case k41 => k_is); (case a42 => k_is); (case l42 => k_is); (case c42 => k_is); (case k42 => k_is); (case a43 => k_is); (case l43 => k_is); (case c43 => k_is); (case k43 => k_is); (case a44 => k_is); (case l44 => k_is); (case c44 => k_is); (case k44 => k_is); (case a45 => k_is); (case l45 => k_is); (case c45 => k_is); (case k45 => k_is); (case a46 => k_is); (case l46 => k_is); (case c46 => k_is); (case k46 => k_is); (case a47 => k_is); (case l47 => k_is); (case c47 => k_is); (case k47 => k_is); (case a48 => k_is); (case l48 => k_is); (case c48 => k_is); (case k48 => k_is); (case a49 => k_is); (case l49 => k_is); (case c49 => k_is); (case k49 => k_is); (case a50 => k_is); (case l50 => k_is); (case c50 => k_is); (case k50 => k_is); (case a51 => k_is); (case l51 => k_is); (case c51 => k_is); (case k51 => k_is); (case a52 => k_is); (case l52 => k_is); (case c52 => k_is); (case k52 => k_is); (case a53 => k_is); (case l53 => k_is); (case c53 => k_is); (case k53 => k_is); (case a54 => k_is); (case l54 => k_is); (case c54 => k_is); (case k54 => k_is); (case a55 => k_is); (case l55 => k_is); (case c55 => k_is); (case k55 => k_is); (case xa0 => k_is); (case xq0 => k_exc); (case xk0 => k_is); (case xs0 => k_is); (case xt0 => k_is); (case xa1 => k_is); (case xq1 => k_exc); (case xk1 => k_is); (case xs1 => k_is); (case xt1 => k_is); (case xa2 => k_is); (case xq2 => k_exc); (case xk2 => k_is); (case xs2 => k_is); (case xt2 => k_is); (case xa3 => k_is); (case xq3 => k_exc); (case xk3 => k_is); (case xs3 => k_is); (case xt3 => k_is); (case xa4 => k_is); (case xq4 => k_exc); (case xk4 => k_is); (case xs4 => k_is); (case xt4 => k_is); (case xa5 => k_is); (case xq5 => k_exc); (case xk5 => k_is); (case xs5 => k_is); (case xt5 => k_is); (case xe => kernel_rfl)
