import PyProof.Rows.All
import HandS.ForMost
import HandS.ForExc
import HandS.IsInst
import HandS.Deep
import HandS.TupAny
import HandS.TupMul
import HandS.Wide
import HandS.Sort
import HandS.Style
import HandS.Dict
import KE.SortData
import PySem.Challenge.RW_tilegrow_k01_what_is_a_floor
import Wide.All
import OpenK.AllK
import Wide.FinOn
set_option linter.all false
set_option Elab.async false
/-! DSem: data, the store, the small language and its evaluator (plain Lean) -/
namespace DL

/-- pure data -/
inductive P where
  | non | bl (b : Bool) | int (i : Int) | str (x : List Nat)
  | tup (xs : List P) | lst (xs : List P) | dic (ks vs : List P)
  /-- the law's script: a list that is only read -/
  | scr (xs : List P)
  deriving Inhabited

mutual
def P.beq : P → P → Bool
  | .non, .non => true
  | .bl a, .bl b => a == b
  | .int a, .int b => decide (a = b)
  | .str a, .str b => decide (a = b)
  | .tup a, .tup b => P.beqs a b
  | .lst a, .lst b => P.beqs a b
  | .dic a c, .dic b d => P.beqs a b && P.beqs c d
  | .scr a, .scr b => P.beqs a b
  | _, _ => false
def P.beqs : List P → List P → Bool
  | [], [] => true
  | a :: r, b :: s => P.beq a b && P.beqs r s
  | _, _ => false
end
mutual
theorem P.beq_refl : ∀ x : P, P.beq x x = true
  | .non => rfl
  | .bl _ => by simp [P.beq]
  | .int _ => by simp [P.beq]
  | .str _ => by simp [P.beq]
  | .tup xs => by simp only [P.beq]; exact P.beqs_refl xs
  | .lst xs => by simp only [P.beq]; exact P.beqs_refl xs
  | .dic a b => by simp only [P.beq, P.beqs_refl a, P.beqs_refl b, Bool.and_self]
  | .scr xs => by simp only [P.beq]; exact P.beqs_refl xs
theorem P.beqs_refl : ∀ xs : List P, P.beqs xs xs = true
  | [] => rfl
  | x :: r => by simp only [P.beqs, P.beq_refl x, P.beqs_refl r, Bool.and_self]
end
mutual
theorem P.beq_eq : ∀ x y : P, P.beq x y = true → x = y
  | .non, y, h => by cases y <;> simp [P.beq] at h ⊢
  | .bl _, y, h => by cases y <;> simp [P.beq] at h ⊢ <;> exact h
  | .int _, y, h => by cases y <;> simp [P.beq] at h ⊢ <;> exact h
  | .str _, y, h => by cases y <;> simp [P.beq] at h ⊢ <;> exact h
  | .tup xs, y, h => by
    cases y <;> simp only [P.beq, Bool.false_eq_true] at h
    rw [P.beqs_eq _ _ h]
  | .lst xs, y, h => by
    cases y <;> simp only [P.beq, Bool.false_eq_true] at h
    rw [P.beqs_eq _ _ h]
  | .dic a b, y, h => by
    cases y <;> simp only [P.beq, Bool.false_eq_true] at h
    rw [Bool.and_eq_true] at h
    rw [P.beqs_eq _ _ h.1, P.beqs_eq _ _ h.2]
  | .scr xs, y, h => by
    cases y <;> simp only [P.beq, Bool.false_eq_true] at h
    rw [P.beqs_eq _ _ h]
theorem P.beqs_eq : ∀ xs ys : List P, P.beqs xs ys = true → xs = ys
  | [], ys, h => by cases ys <;> simp [P.beqs] at h ⊢
  | x :: r, ys, h => by
    cases ys <;> simp only [P.beqs, Bool.false_eq_true] at h
    rw [Bool.and_eq_true] at h
    rw [P.beq_eq _ _ h.1, P.beqs_eq _ _ h.2]
end
instance : DecidableEq P := fun x y => decidable_of_iff (P.beq x y = true) ⟨P.beq_eq x y, fun e => e ▸ P.beq_refl x⟩

/-- a mutable object: a list, a dict, a dict whose values are mutable objects; dead: given up -/
inductive O where
  | lst (xs : List P) | dic (kvs : List (P × P)) | dir (kvs : List (P × Nat)) | dead
  deriving DecidableEq
abbrev Store := List O
/-- a value: data, a mutable object, a caught exception -/
inductive D where
  | p (x : P) | ref (l : Nat) | exc (c : Nat) (fs : List P)
  deriving DecidableEq
abbrev Env := List (Option D)

/-- the end of an expression -/
inductive R (α : Type) where
  | ok (a : α) (S : Store) | ex (c : Nat) (fs : List P) (S : Store) | no
def R.bind {α β : Type} (r : R α) (f : α → Store → R β) : R β :=
  match r with
  | .ok a S => f a S
  | .ex c fs S => .ex c fs S
  | .no => .no
@[simp] theorem R.bind_ok {α β : Type} (a : α) (S : Store) (f : α → Store → R β) : (R.ok a S).bind f = f a S := rfl
@[simp] theorem R.bind_ex {α β : Type} (c : Nat) (fs : List P) (S : Store) (f : α → Store → R β) : (R.ex c fs S).bind f = .ex c fs S := rfl
@[simp] theorem R.bind_no {α β : Type} (f : α → Store → R β) : (R.no).bind f = .no := rfl

/-- the end of a statement -/
inductive RS where
  | nx (e : Env) (S : Store) | ret (d : D) (S : Store) | bk (e : Env) (S : Store) | ct (e : Env) (S : Store) | ex (c : Nat) (fs : List P) (e : Env) (S : Store) | no
/-- go on behind an expression in the slots e -/
def R.go {α : Type} (r : R α) (e : Env) (f : α → Store → RS) : RS :=
  match r with
  | .ok a S => f a S
  | .ex c fs S => .ex c fs e S
  | .no => .no
@[simp] theorem R.go_ok {α : Type} (a : α) (S : Store) (e : Env) (f : α → Store → RS) : (R.ok a S).go e f = f a S := rfl
@[simp] theorem R.go_ex {α : Type} (c : Nat) (fs : List P) (S : Store) (e : Env) (f : α → Store → RS) : (R.ex c fs S).go e f = .ex c fs e S := rfl
@[simp] theorem R.go_no {α : Type} (e : Env) (f : α → Store → RS) : (R.no).go e f = .no := rfl

/-- what a value is to be read as -/
def oval : O → Option P
  | .lst xs => some (.lst xs)
  | .dic kvs => some (.dic (kvs.map (·.1)) (kvs.map (·.2)))
  | .dir _ => none
  | .dead => none
def val (S : Store) : D → Option P
  | .p x => some x
  | .ref l => S[l]?.bind oval
  | .exc _ _ => none
def vals (S : Store) : List D → Option (List P)
  | [] => some []
  | d :: r => match val S d, vals S r with
    | some x, some xs => some (x :: xs)
    | _, _ => none

def pures : List D → Option (List P)
  | [] => some []
  | .p x :: r => match pures r with
    | some xs => some (x :: xs)
    | none => none
  | _ :: _ => none

/-- a target: one name, or some names for a tuple's things -/
inductive Tg where
  | one (i : Nat) | many (is : List Nat)
def setMany : List Nat → List P → Env → Option Env
  | [], [], e => some e
  | i :: is, x :: xs, e => setMany is xs (e.set i (some (.p x)))
  | _, _, _ => none
def assignTg : Tg → D → Store → Env → Option Env
  | .one i, d, _, e => some (e.set i (some d))
  | .many is, .p (.tup xs), _, e => setMany is xs e
  | .many _, _, _, _ => none
def wipeD (e : Env) : List Nat → Env
  | [] => e
  | v :: vs => (wipeD e vs).set v none

/-- what changes an object: the object, the arguments; the new object, what is told -/
abbrev Mu := O → List P → Option (O × P)

mutual
inductive IE where
  /-- data -/
  | c (x : P)
  | v (i : Nat)
  /-- by the values of the parts -/
  | op (f : List P → Option P) (es : IEs)
  /-- the same where each part is data -/
  | pk (f : List P → Option P) (es : IEs)
  | call (f : Nat) (es : IEs)
  | and_ (a b : IE) | or_ (a b : IE) | not_ (a : IE) | ite (t a b : IE)
  /-- a < b < c -/
  | chain (f g : P → P → Option Bool) (a b c : IE)
  /-- [elt for tg in items if cd] -/
  | comp (vs : List Nat) (tg : Tg) (f : List P → Option (List P)) (es : IEs) (cd elt : IE)
  /-- a part of a slice: an int -/
  | part (a : IE)
  /-- a new list or dict, as a mutable object -/
  | new (a : IE)
  /-- a mutable object given up for its data -/
  | frz (a : IE)
  /-- a.m(..): T looks at a ahead of the arguments -/
  | meth (T : P → Bool) (f : List P → Option P) (a : IE) (es : IEs)
  /-- a change of an object -/
  | mut (T : P → Bool) (g : Mu) (a : IE) (es : IEs)
  /-- the object that stands at a key -/
  | getr (a k : IE)
inductive IEs where
  | nil | cons (e : IE) (es : IEs)
end
mutual
inductive IS where
  | asg (tg : Tg) (e : IE)
  | expr (e : IE)
  | ret (e : IE)
  | iff (t : IE) (a b : ISs)
  | for_ (tg : Tg) (f : List P → Option (List P)) (es : IEs) (b : ISs)
  | whl (t : IE) (b : ISs)
  | pass | brk | cnt
  /-- a[k] = v -/
  | sub (g : Mu) (a k v : IE)
  /-- d[k] = a new object -/
  | putr (d k v : IE)
  | raise (c : Nat) (es : IEs)
  /-- try: b except C as slot: h -/
  | try_ (b : ISs) (hits : Nat → Bool) (slot : Option Nat) (h : ISs)
inductive ISs where
  | nil | cons (s : IS) (r : ISs)
end

def trueP : P → Option Bool
  | .bl b => some b
  | _ => none
def trueD : D → Option Bool
  | .p x => trueP x
  | _ => none

/-- the items' loop of a comprehension -/
def compL (chk : Store → Bool) (f : P → Store → R (Option P)) : List P → Store → R (List P)
  | [], S => if chk S then .ok [] S else .no
  | x :: r, S => if chk S then (match f x S with
    | .ok o S1 => (compL chk f r S1).bind fun ys S2 => .ok (match o with | some y => y :: ys | none => ys) S2
    | _ => .no) else .no
/-- the items' loop of a for -/
def forL (chk : Store → Bool) (f : P → Env → Store → RS) : List P → Env → Store → RS
  | [], e, S => if chk S then .nx e S else .no
  | x :: r, e, S => if chk S then
      match f x e S with
      | .nx e1 S1 => forL chk f r e1 S1
      | .ct e1 S1 => forL chk f r e1 S1
      | .bk e1 S1 => .nx e1 S1
      | .ret d S1 => .ret d S1
      | .ex c fs e1 S1 => .ex c fs e1 S1
      | .no => .no
    else .no
/-- a while's loop, at most so many turns -/
def whlL (c : Env → Store → R D) (f : Env → Store → RS) : Nat → Env → Store → RS
  | 0, _, _ => .no
  | n + 1, e, S => (c e S).go e fun d S1 =>
      match trueD d with
      | some true => (match f e S1 with
        | .nx e1 S2 => whlL c f n e1 S2
        | .ct e1 S2 => whlL c f n e1 S2
        | .bk e1 S2 => .nx e1 S2
        | .ret d S2 => .ret d S2
        | .ex c fs e1 S2 => .ex c fs e1 S2
        | .no => .no)
      | some false => .nx e S1
      | none => .no

def newD : D → Store → R D
  | .p (.lst xs), S => .ok (.ref S.length) (S ++ [.lst xs])
  | .p (.dic ks vs), S => .ok (.ref S.length) (S ++ [.dic (ks.zip vs)])
  | _, _ => .no
def freezeR (S : Store) : List (P × Nat) → Option (List P)
  | [] => some []
  | (_, l) :: r => match S[l]?.bind oval, freezeR S r with
    | some x, some xs => some (x :: xs)
    | _, _ => none
def killR (S : Store) : List (P × Nat) → Store
  | [] => S
  | (_, l) :: r => killR (S.set l .dead) r
/-- the objects that stood at the entry speak of no new ones -/
def okT : Store → Store → Bool
  | [], _ => true
  | _ :: _, [] => false
  | a :: r, b :: s => (match b with
    | .dir _ => decide (a = b)
    | _ => true) && okT r s
/-- what is left of the store where the object at l is given up; S0: the store ahead of it -/
def gone (S0 : Store) (l : Nat) (S : Store) : Store := if l = S0.length ∧ S.length = S0.length + 1 ∧ okT S0 S = true then S.take S0.length else S.set l .dead
def frzD (S0 : Store) : D → Store → R D
  | .p x, S => .ok (.p x) S
  | .ref l, S => match S[l]? with
    | some (.lst xs) => .ok (.p (.lst xs)) (gone S0 l S)
    | some (.dic kvs) => .ok (.p (.dic (kvs.map (·.1)) (kvs.map (·.2)))) (gone S0 l S)
    | some (.dir kvs) => (match freezeR S kvs with
      | some vs => .ok (.p (.dic (kvs.map (·.1)) vs)) (killR (S.set l .dead) kvs)
      | none => .no)
    | _ => .no
  | _, _ => .no
def mutD (g : Mu) (d : D) (xs : List P) (S : Store) : R D :=
  match d with
  | .ref l => match S[l]? with
    | some o => (match g o xs with
      | some (o', y) => .ok (.p y) (S.set l o')
      | none => .no)
    | none => .no
  | _ => .no
def lookR (k : P) : List (P × Nat) → Option Nat
  | [] => none
  | (j, l) :: r => if j = k then some l else lookR k r

/-- the end of a def: the objects that stood at the entry, what is told -/
def fin (S0 : Store) : RS → R D
  | .nx _ S => if okT S0 S then .ok (.p .non) (S.take S0.length) else .no
  | .ret (.p x) S => if okT S0 S then .ok (.p x) (S.take S0.length) else .no
  | .ret (.ref l) S => if okT S0 S then (if l < S0.length then .ok (.ref l) (S.take S0.length) else
    match S[l]? with
    | some (.lst xs) => .ok (.ref S0.length) (S.take S0.length ++ [.lst xs])
    | some (.dic kvs) => .ok (.ref S0.length) (S.take S0.length ++ [.dic kvs])
    | _ => .no) else .no
  | .ex c fs _ S => if okT S0 S then .ex c fs (S.take S0.length) else .no
  | _ => .no

abbrev Rn := Nat → List D → Store → R D

section
variable (rn : Rn) (w : Nat)
mutual
def evE : IE → Env → Store → R D
  | .c x, _, S => .ok (.p x) S
  | .v i, e, S => match e[i]? with
    | some (some d) => .ok d S
    | _ => .no
  | .op f es, e, S => (evEs es e S).bind fun ds S1 =>
    match vals S1 ds with
    | some xs => (match f xs with
      | some y => .ok (.p y) S1
      | none => .no)
    | none => .no
  | .pk f es, e, S => (evEs es e S).bind fun ds S1 =>
    match pures ds with
    | some xs => (match f xs with
      | some y => .ok (.p y) S1
      | none => .no)
    | none => .no
  | .call f es, e, S => (evEs es e S).bind fun ds S1 => rn f ds S1
  | .and_ a b, e, S => (evE a e S).bind fun d S1 =>
    match trueD d with
    | some true => evE b e S1
    | some false => .ok (.p (.bl false)) S1
    | none => .no
  | .or_ a b, e, S => (evE a e S).bind fun d S1 =>
    match trueD d with
    | some true => .ok (.p (.bl true)) S1
    | some false => evE b e S1
    | none => .no
  | .not_ a, e, S => (evE a e S).bind fun d S1 =>
    match trueD d with
    | some b => .ok (.p (.bl (!b))) S1
    | none => .no
  | .ite t a b, e, S => (evE t e S).bind fun d S1 =>
    match trueD d with
    | some true => evE a e S1
    | some false => evE b e S1
    | none => .no
  | .chain f g a b c, e, S => (evE a e S).bind fun d1 S1 => (evE b e S1).bind fun d2 S2 =>
    match d1, d2 with
    | .p x, .p y => (match f x y with
      | some true => (evE c e S2).bind fun d3 S3 =>
        (match d3 with
        | .p z => (match g y z with
          | some r => .ok (.p (.bl r)) S3
          | none => .no)
        | _ => .no)
      | some false => .ok (.p (.bl false)) S2
      | none => .no)
    | _, _ => .no
  | .comp vs tg f es cd elt, e, S => (evEs es e S).bind fun ds S1 =>
    match vals S1 ds with
    | some xs => (match f xs with
      | some items => (compL (fun S2 => decide (vals S2 ds = some xs)) (fun x S2 =>
          match assignTg tg (.p x) S2 (wipeD e vs) with
          | some e1 => (evE cd e1 S2).bind fun t S3 =>
            (match trueD t with
            | some true => (evE elt e1 S3).bind fun d S4 =>
              (match d with
              | .p y => .ok (some y) S4
              | _ => .no)
            | some false => .ok none S3
            | none => .no)
          | none => .no) items S1).bind fun ys S2 => .ok (.p (.lst ys)) S2
      | none => .no)
    | none => .no
  | .part a, e, S => (evE a e S).bind fun d S1 =>
    match d with
    | .p (.int i) => .ok (.p (.int i)) S1
    | _ => .no
  | .new a, e, S => (evE a e S).bind newD
  | .frz a, e, S => (evE a e S).bind (frzD S)
  | .meth T f a es, e, S => (evE a e S).bind fun d S1 =>
    match val S1 d with
    | some x => if T x then (evEs es e S1).bind fun ds S2 =>
        (match vals S2 (d :: ds) with
        | some xs => (match f xs with
          | some y => .ok (.p y) S2
          | none => .no)
        | none => .no) else .no
    | none => .no
  | .mut T g a es, e, S => (evE a e S).bind fun d S1 =>
    match val S1 d with
    | some x => if T x then (evEs es e S1).bind fun ds S2 =>
        (match pures ds with
        | some xs => mutD g d xs S2
        | none => .no) else .no
    | none => .no
  | .getr a k, e, S => (evE a e S).bind fun d S1 => (evE k e S1).bind fun j S2 =>
    match d, j with
    | .ref l, .p x => (match S2[l]? with
      | some (.dir kvs) => (match lookR x kvs with
        | some m => .ok (.ref m) S2
        | none => .no)
      | _ => .no)
    | _, _ => .no
def evEs : IEs → Env → Store → R (List D)
  | .nil, _, S => .ok [] S
  | .cons a r, e, S => (evE a e S).bind fun d S1 => (evEs r e S1).bind fun ds S2 => .ok (d :: ds) S2
end
def putrD (d j v : D) (S : Store) (e : Env) : RS :=
  match d, j, v with
  | .ref l, .p x, .ref m =>
      (match S[l]? with
      | some (.dir kvs) => if lookR x kvs = none then .nx e (S.set l (.dir (kvs ++ [(x, m)]))) else .no
      | some (.dic []) => .nx e (S.set l (.dir [(x, m)]))
      | _ => .no)
  | _, _, _ => .no
mutual
def evS : IS → Env → Store → RS
  | .asg tg a, e, S => (evE rn a e S).go e fun d S1 =>
    match assignTg tg d S1 e with
    | some e1 => .nx e1 S1
    | none => .no
  | .expr a, e, S => (evE rn a e S).go e fun _ S1 => .nx e S1
  | .ret a, e, S => (evE rn a e S).go e fun d S1 => .ret d S1
  | .iff t a b, e, S => (evE rn t e S).go e fun d S1 =>
    match trueD d with
    | some true => evSs a e S1
    | some false => evSs b e S1
    | none => .no
  | .for_ tg f es b, e, S => (evEs rn es e S).go e fun ds S1 =>
    match vals S1 ds with
    | some xs => (match f xs with
      | some items => forL (fun S2 => decide (vals S2 ds = some xs)) (fun x e1 S2 =>
          match assignTg tg (.p x) S2 e1 with
          | some e2 => evSs b e2 S2
          | none => .no) items e S1
      | none => .no)
    | none => .no
  | .whl t b, e, S => whlL (fun e S => evE rn t e S) (fun e S => evSs b e S) w e S
  | .pass, e, S => .nx e S
  | .brk, e, S => .bk e S
  | .cnt, e, S => .ct e S
  | .sub g a k v, e, S => (evE rn v e S).go e fun v1 S1 => (evE rn a e S1).go e fun d1 S2 => (evE rn k e S2).go e fun k1 S3 =>
    match v1, k1 with
    | .p y, .p x => (mutD g d1 [x, y] S3).go e fun _ S4 => .nx e S4
    | _, _ => .no
  | .putr d k v, e, S => (evE rn v e S).go e fun v1 S1 => (evE rn d e S1).go e fun d1 S2 => (evE rn k e S2).go e fun k1 S3 => putrD d1 k1 v1 S3 e
  | .raise c es, e, S => (evEs rn es e S).go e fun ds S1 =>
    match vals S1 ds with
    | some xs => .ex c xs e S1
    | none => .no
  | .try_ b hits slot h, e, S => match evSs b e S with
    | .ex c fs e1 S1 => if hits c then
        (match slot with
        | none => evSs h e1 S1
        | some i => evSs h (e1.set i (some (.exc c fs))) S1)
      else .ex c fs e1 S1
    | r => r
def evSs : ISs → Env → Store → RS
  | .nil, e, S => .nx e S
  | .cons s r, e, S => match evS s e S with
    | .nx e1 S1 => evSs r e1 S1
    | .ret d S1 => .ret d S1
    | .bk e1 S1 => .bk e1 S1
    | .ct e1 S1 => .ct e1 S1
    | .ex c fs e1 S1 => .ex c fs e1 S1
    | .no => .no
end
end

/-- a def: how many parameters, how many other names, the body -/
structure Fn where
  np : Nat
  nv : Nat
  body : ISs
abbrev Prog := Nat → Option Fn
/-- how many turns a while may take -/
def turnsMost : Nat := 2 ^ 60
def run (p : Prog) : Nat → Rn
  | 0, _, _, _ => .no
  | k + 1, f, ds, S => match p f with
    | some fn => if ds.length = fn.np then fin S (evSs (run p k) turnsMost fn.body (ds.map some ++ List.replicate fn.nv none) S) else .no
    | none => .no
end DL

/-! DOps: operations on data (plain Lean) -/
namespace DL
def line : Nat := 16777216
def addP : List P → Option P
  | [.int a, .int b] => some (.int (a + b))
  | [.str a, .str b] => if a.length + b.length ≤ line then some (.str (a ++ b)) else none
  | [.tup a, .tup b] => if a.length + b.length ≤ line then some (.tup (a ++ b)) else none
  | [.lst a, .lst b] => if a.length + b.length ≤ line then some (.lst (a ++ b)) else none
  | _ => none
def subP : List P → Option P
  | [.int a, .int b] => some (.int (a - b))
  | _ => none
def negP : List P → Option P
  | [.int a] => some (.int (-a))
  | _ => none
def mulP : List P → Option P
  | [.int a, .int b] => if a.natAbs.log2 + b.natAbs.log2 < 1000000 then some (.int (a * b)) else none
  | [.lst a, .int k] => if -9223372036854775808 ≤ k ∧ k < 9223372036854775808 ∧ a.length * k.toNat ≤ line then some (.lst (List.replicate k.toNat a).flatten) else none
  | [.tup a, .int k] => if a ≠ [] ∧ 2 ≤ k ∧ k ≤ 1000 ∧ a.length ≤ 1000 then some (.tup (List.replicate k.toNat a).flatten) else none
  | [.str a, .int k] => if 2 ≤ k ∧ k ≤ 1000 ∧ 1 ≤ a.length ∧ a.length ≤ 1000 then some (.str (List.replicate k.toNat a).flatten) else none
  | _ => none
def fdivP : List P → Option P
  | [.int a, .int b] => if 0 < b ∧ b.natAbs.log2 < 9000 then some (.int (a / b)) else none
  | _ => none
def modP : List P → Option P
  | [.int a, .int b] => if 0 < b then some (.int (a % b)) else none
  | _ => none
def powP : List P → Option P
  | [.int a, .int b] => if 0 ≤ b ∧ b ≤ 1000000 ∧ a.natAbs < 18446744073709551616 then some (.int (a ^ b.toNat)) else none
  | _ => none
def ltP : List P → Option P
  | [.int a, .int b] => some (.bl (decide (a < b)))
  | _ => none
def leP : List P → Option P
  | [.int a, .int b] => some (.bl (decide (a ≤ b)))
  | _ => none
def gtP : List P → Option P
  | [.int a, .int b] => some (.bl (decide (b < a)))
  | _ => none
def geP : List P → Option P
  | [.int a, .int b] => some (.bl (decide (b ≤ a)))
  | _ => none
mutual
/-- == -/
def P.eqv : P → P → Bool
  | .non, .non => true
  | .bl a, .bl b => a == b
  | .bl a, .int j => decide ((if a then 1 else 0) = j)
  | .int i, .bl b => decide (i = (if b then 1 else 0))
  | .int i, .int j => decide (i = j)
  | .str x, .str y => decide (x = y)
  | .lst xs, .lst ys => P.eqvs xs ys
  | .tup xs, .tup ys => P.eqvs xs ys
  | _, _ => false
def P.eqvs : List P → List P → Bool
  | [], [] => true
  | x :: xs, y :: ys => P.eqv x y && P.eqvs xs ys
  | _, _ => false
end
mutual
/-- no dict in it, at most so deep -/
def P.shp : Nat → P → Bool
  | _, .non => true
  | _, .bl _ => true
  | _, .int _ => true
  | _, .str _ => true
  | n + 1, .lst xs => P.shps n xs
  | n + 1, .tup xs => P.shps n xs
  | _, _ => false
def P.shps : Nat → List P → Bool
  | _, [] => true
  | n, x :: r => P.shp n x && P.shps n r
end
def eqP : List P → Option P
  | [x, y] => if x.shp 60 && y.shp 60 then some (.bl (x.eqv y)) else none
  | _ => none
def neP : List P → Option P
  | [x, y] => if x.shp 60 && y.shp 60 then some (.bl (!x.eqv y)) else none
  | _ => none
def isNoneP : List P → Option P
  | [.non] => some (.bl true)
  | [.bl _] => some (.bl false)
  | [.int _] => some (.bl false)
  | [.str _] => some (.bl false)
  | [.tup _] => some (.bl false)
  | [.lst _] => some (.bl false)
  | [.dic _ _] => some (.bl false)
  | _ => none
def notNoneP : List P → Option P
  | [.non] => some (.bl false)
  | [.bl _] => some (.bl true)
  | [.int _] => some (.bl true)
  | [.str _] => some (.bl true)
  | [.tup _] => some (.bl true)
  | [.lst _] => some (.bl true)
  | [.dic _ _] => some (.bl true)
  | _ => none
/-- the place of an index of any sign -/
def ixN' (n : Nat) (i : Int) : Option Nat := if 0 ≤ i then (if i < n then some i.toNat else none) else if -(n : Int) ≤ i then some (i + n).toNat else none
def atP {α : Type} (xs : List α) (i : Int) : Option α := (ixN' xs.length i).bind fun j => xs[j]?
def ixP : List P → Option P
  | [.lst xs, .int i] => atP xs i
  | [.tup xs, .int i] => atP xs i
  | [.scr xs, .int i] => atP xs i
  | [.str x, .int i] => (atP x i).map fun c => .str [c]
  | _ => none
/-- where a slice begins or ends -/
def sIx' (n d : Nat) : P → Option Nat
  | .non => some d
  | .int v => some (if v < 0 then (v + (n : Int)).toNat else min v.toNat n)
  | _ => none
def cutL {α : Type} (xs : List α) (lo hi : Nat) : List α := (xs.drop lo).take (hi - lo)
def sliceP : List P → Option P
  | [.str x, l, h] => match sIx' x.length 0 l, sIx' x.length x.length h with
    | some lo, some hi => some (.str (cutL x lo hi))
    | _, _ => none
  | [.tup x, l, h] => match sIx' x.length 0 l, sIx' x.length x.length h with
    | some lo, some hi => some (.tup (cutL x lo hi))
    | _, _ => none
  | [.lst x, l, h] => match sIx' x.length 0 l, sIx' x.length x.length h with
    | some lo, some hi => some (.lst (cutL x lo hi))
    | _, _ => none
  | [.scr x, l, h] => match sIx' x.length 0 l, sIx' x.length x.length h with
    | some lo, some hi => some (.lst (cutL x lo hi))
    | _, _ => none
  | _ => none
def sliceL : List P → Option P
  | [.lst x, l, h] => match sIx' x.length 0 l, sIx' x.length x.length h with
    | some lo, some hi => some (.lst (cutL x lo hi))
    | _, _ => none
  | [.scr x, l, h] => match sIx' x.length 0 l, sIx' x.length x.length h with
    | some lo, some hi => some (.lst (cutL x lo hi))
    | _, _ => none
  | _ => none
def lenP : List P → Option P
  | [.lst xs] => some (.int xs.length)
  | [.tup xs] => some (.int xs.length)
  | [.scr xs] => some (.int xs.length)
  | [.str x] => some (.int x.length)
  | [.dic ks _] => some (.int ks.length)
  | _ => none
def max2P : List P → Option P
  | [.int a, .int b] => some (.int (if b > a then b else a))
  | _ => none
def min2P : List P → Option P
  | [.int a, .int b] => some (.int (if b < a then b else a))
  | _ => none
def absP : List P → Option P
  | [.int a] => some (.int (if a < 0 then -a else a))
  | _ => none
def intP : List P → Option P
  | [.int a] => some (.int a)
  | [.bl b] => some (.int (if b then 1 else 0))
  | _ => none
def tupleP : List P → Option P
  | [.lst xs] => some (.tup xs)
  | [.tup xs] => some (.tup xs)
  | _ => none
def listP : List P → Option P
  | [.lst xs] => some (.lst xs)
  | [.tup xs] => some (.lst xs)
  | [.scr xs] => some (.lst xs)
  | _ => none
def strsP : List P → Option (List (List Nat))
  | [] => some []
  | .str x :: r => match strsP r with
    | some xs => some (x :: xs)
    | none => none
  | _ :: _ => none
def joinL (a : List Nat) : List (List Nat) → List Nat
  | [] => []
  | [x] => x
  | x :: y :: r => x ++ a ++ joinL a (y :: r)
def joinP : List P → Option P
  | [.str a, .lst xs] => match strsP xs with
    | some ys => if (ys.map (·.length)).sum + ys.length * a.length ≤ line then some (.str (joinL a ys)) else none
    | none => none
  | [.str a, .tup xs] => match strsP xs with
    | some ys => if (ys.map (·.length)).sum + ys.length * a.length ≤ line then some (.str (joinL a ys)) else none
    | none => none
  | _ => none
def isTyP (T : String) : P → Option Bool
  | .non => some false
  | .bl _ => some (decide (T = "bool") || decide (T = "int"))
  | .int _ => some (decide (T = "int"))
  | .str _ => some (decide (T = "str"))
  | .tup _ => some (decide (T = "tuple"))
  | .lst _ => some (decide (T = "list"))
  | .dic _ _ => some (decide (T = "dict"))
  | _ => none
/-- isinstance(x, T) -/
def isiP (T : String) : List P → Option P
  | [x] => (isTyP T x).map .bl
  | _ => none
def bools : List P → Option (List Bool)
  | [] => some []
  | .bl b :: r => match bools r with
    | some bs => some (b :: bs)
    | none => none
  | _ :: _ => none
def allP : List P → Option P
  | [.lst xs] => (bools xs).map fun bs => .bl (bs.all id)
  | _ => none
def anyP : List P → Option P
  | [.lst xs] => (bools xs).map fun bs => .bl (bs.any id)
  | _ => none
/-- one sign in a text -/
def inSignP : List P → Option P
  | [.str [c], .str z] => some (.bl (decide (c ∈ z)))
  | _ => none
def notInSignP : List P → Option P
  | [.str [c], .str z] => some (.bl (!decide (c ∈ z)))
  | _ => none
/-- x in range(lo, hi) -/
def inRangeP : List P → Option P
  | [.int i, .int lo, .int hi] => some (.bl (decide (lo ≤ i ∧ i < hi)))
  | _ => none
def notInRangeP : List P → Option P
  | [.int i, .int lo, .int hi] => some (.bl (!decide (lo ≤ i ∧ i < hi)))
  | _ => none
/-! ### changes -/
def appendM : Mu
  | .lst xs, [y] => if xs.length < line then some (.lst (xs ++ [y]), .non) else none
  | _, _ => none
def setM : Mu
  | .lst xs, [.int i, y] => match ixN' xs.length i with
    | some j => some (.lst (xs.set j y), .non)
    | none => none
  | _, _ => none
def itemsP : List P → Option (List P)
  | [.lst xs] => some xs
  | [.tup xs] => some xs
  | [.str x] => some (x.map fun c => .str [c])
  | _ => none
def rangeL (lo : Int) (n : Nat) : List P := (List.range n).map fun (i : Nat) => .int (lo + (i : Int))
def range1P : List P → Option (List P)
  | [.int j] => if j ≤ 16777216 ∧ -1000000000 ≤ j then some (rangeL 0 j.toNat) else none
  | _ => none
def range2P : List P → Option (List P)
  | [.int i, .int j] => if -4611686018427387904 ≤ i ∧ i < 4611686018427387904 ∧ -4611686018427387904 ≤ j ∧ j < 4611686018427387904 ∧ j - i ≤ 16777216 then some (rangeL i (j - i).toNat) else none
  | _ => none
/-- len of what is no dict -/
def lenQ (xs : List P) : Option P := match xs with | [.dic _ _] => none | xs => lenP xs
def catP : List P → Option P
  | [.lst a, .lst b] => if a.length + b.length ≤ line then some (.lst (a ++ b)) else none
  | _ => none
def repP : List P → Option P
  | [.lst a, .int k] => if -9223372036854775808 ≤ k ∧ k < 9223372036854775808 ∧ a.length * k.toNat ≤ line then some (.lst (List.replicate k.toNat a).flatten) else none
  | _ => none
def isP : List P → Option P
  | [x, .non] => isNoneP [x]
  | _ => none
def isNotP : List P → Option P
  | [x, .non] => notNoneP [x]
  | _ => none
def iaddP : List P → Option P := fun xs => match xs with | [.int a, .int b] => some (.int (a + b)) | _ => none
/-- (a, b, ..) -/
def tupP (xs : List P) : Option P := some (.tup xs)
/-- [a, b, ..] -/
def lstP (xs : List P) : Option P := some (.lst xs)
def isTy (T : String) : P → Bool
  | .str _ => decide (T = "str")
  | .lst _ => decide (T = "list")
  | .dic _ _ => decide (T = "dict")
  | _ => false
end DL

/-! DOps2: more operations on data (plain Lean) -/
namespace DL
/-- what is never come to -/
def irNo : IS := .expr (.op (fun _ => none) .nil)
def revP : List P → Option P
  | [.str x] => some (.str x.reverse)
  | [.lst xs] => some (.lst xs.reverse)
  | _ => none
mutual
/-- < -/
def P.lt : P → P → Bool
  | .bl a, .bl b => !a && b
  | .int a, .int b => decide (a < b)
  | .str a, .str b => decide (a < b)
  | .tup a, .tup b => P.lts a b
  | .lst a, .lst b => P.lts a b
  | _, _ => false
def P.lts : List P → List P → Bool
  | [], [] => false
  | [], _ :: _ => true
  | _ :: _, [] => false
  | x :: xs, y :: ys => if P.eqv x y then P.lts xs ys else P.lt x y
end
mutual
/-- of one kind, place by place -/
def P.alk : P → P → Bool
  | .non, .non => true
  | .bl _, .bl _ => true
  | .int _, .int _ => true
  | .str _, .str _ => true
  | .tup a, .tup b => P.alks a b
  | .lst a, .lst b => P.alks a b
  | _, _ => false
def P.alks : List P → List P → Bool
  | x :: xs, y :: ys => P.alk x y && P.alks xs ys
  | [], _ => true
  | _ :: _, [] => true
end
def tupN : P → Bool
  | .tup (_ :: _) => true
  | _ => false
def notTN : P → Bool
  | .tup _ => false
  | .non => false
  | _ => true
def canSort (xs : List P) : Bool := xs.all (fun x => xs.all fun y => P.alk x y) && (xs.all tupN || xs.all notTN) && P.shps 60 xs && decide (xs.length ≤ line)
def sortP (xs : List P) : List P := xs.mergeSort fun a b => !P.lt b a
def sortedP : List P → Option P
  | [.lst xs] => if canSort xs then some (.lst (sortP xs)) else none
  | _ => none
/-- {} -/
def dnewP (_ : List P) : Option P := some (.dic [] [])
/-- list(x), of a text too -/
def listQ : List P → Option P
  | [.str x] => some (.lst (x.map fun c => .str [c]))
  | xs => listP xs
end DL

set_option maxRecDepth 100000
set_option maxHeartbeats 1000000
/-! DRep: data in the abstract heap; the worlds and how they grow -/
namespace DL
open PySem PySem.Spec PyProof.Rows L2

def strV (x : List Nat) : Str := ⟨x.toArray⟩
def keyP : P → Option Key
  | .int i => some (.inl i)
  | .str x => some (.inr (strV x))
  | _ => none
def keysP : List P → Option (List Key)
  | [] => some []
  | x :: r => match keyP x, keysP r with
    | some k, some ks => some (k :: ks)
    | _, _ => none
def keyT : P → Option (List Key)
  | .tup xs => keysP xs
  | _ => none
def keysT : List P → Option (List (List Key))
  | [] => some []
  | x :: r => match keyT x, keysT r with
    | some k, some ks => some (k :: ks)
    | _, _ => none
/-- a text that is one: not longer than the line, of signs -/
def okS (x : List Nat) : Prop := x.length ≤ sizeLine ∧ ∀ c ∈ x, c < 1114112
theorem okS_of {x : List Nat} (h : (decide (x.length ≤ 16777216) && x.all fun c => decide (c < 1114112)) = true) : okS x := by
  rw [Bool.and_eq_true] at h
  exact ⟨by rw [sizeLine_eq]; exact of_decide_eq_true h.1, fun c hc => of_decide_eq_true (List.all_eq_true.mp h.2 c hc)⟩
/-- a dict whose keys are data, its values vs -/
def DicO (ks : List P) (vs : List V) (u : HO) : Prop :=
  ks.length = vs.length ∧ ((∃ kk, keysP ks = some kk ∧ u = .dK (kk.zip vs)) ∨ (∃ kk, keysT ks = some kk ∧ u = .dT (kk.zip vs)))

/-- a list of the written part -/
def KL (K : PySem.W.Frag) (a : Addr) (xs : List V) : Prop := ∃ (o : Obj) (its : Array Value) (n : Nat), K.lookup a = some o ∧ o.cls = .type "list" ∧ o.dict = none ∧ o.data = .seq its n ∧ its.size ≤ sizeLine ∧ Vals xs its.toList
section
variable (K : PySem.W.Frag) (H : Hp) (pr : Addr → Prop)
mutual
def Rep : P → V → Prop
  | .non, v => v = .non
  | .bl b, v => v = .bl b
  | .int i, v => v = .int i
  | .str x, v => v = .str (strV x) ∧ okS x
  | .tup xs, v => ∃ a vs, v = .ref a ∧ SqT K H a vs ∧ Reps xs vs
  | .lst xs, v => ∃ a vs, v = .ref a ∧ ¬ pr a ∧ H a = some (.lst vs) ∧ Reps xs vs
  | .scr xs, v => ∃ a vs, v = .ref a ∧ ((¬ pr a ∧ Rd H a (.lst vs)) ∨ KL K a vs) ∧ Reps xs vs
  | .dic ks xs, v => ∃ a vs u, v = .ref a ∧ ¬ pr a ∧ Rd H a u ∧ DicO ks vs u ∧ Reps xs vs
def Reps : List P → List V → Prop
  | [], vs => vs = []
  | x :: r, vs => ∃ v s, vs = v :: s ∧ Rep x v ∧ Reps r s
end
/-- the same, but for the object itself -/
def RepT : P → V → Prop
  | .lst xs, v => ∃ a vs, v = .ref a ∧ H a = some (.lst vs) ∧ Reps K H pr xs vs
  | .dic ks xs, v => ∃ a vs u, v = .ref a ∧ Rd H a u ∧ DicO ks vs u ∧ Reps K H pr xs vs
  | x, v => Rep K H pr x v
def RepTs : List P → List V → Prop
  | [], vs => vs = []
  | x :: r, vs => ∃ v s, vs = v :: s ∧ RepT K H pr x v ∧ RepTs r s
end
section
variable {K : PySem.W.Frag} {H H' : Hp} {pr pr' : Addr → Prop}
theorem rd_of (h1 : ∀ a o, ¬ pr a → H a = some o → H' a = some o ∧ ¬ pr' a) {a : Addr} {u : HO} (n : ¬ pr a) (r : Rd H a u) : Rd H' a u ∧ ¬ pr' a := by
  rcases r with r | ⟨o, r⟩
  · exact ⟨.inl (h1 a _ n r).1, (h1 a _ n r).2⟩
  · exact ⟨.inr ⟨o, (h1 a _ n r).1⟩, (h1 a _ n r).2⟩
mutual
theorem Rep.mono (h1 : ∀ a o, ¬ pr a → H a = some o → H' a = some o ∧ ¬ pr' a) (h2 : ∀ a xs, Rd H a (.tup xs) → Rd H' a (.tup xs)) : ∀ (x : P) (v : V), Rep K H pr x v → Rep K H' pr' x v
  | .non, _, h => h
  | .bl _, _, h => h
  | .int _, _, h => h
  | .str _, _, h => h
  | .tup xs, v, h => by
    unfold Rep at h ⊢
    obtain ⟨a, vs, e, q, r⟩ := h
    refine ⟨a, vs, e, ?_, Reps.mono h1 h2 xs vs r⟩
    rcases q with q | q
    · exact .inl (h2 _ _ q)
    · exact .inr q
  | .lst xs, v, h => by
    unfold Rep at h ⊢
    obtain ⟨a, vs, e, n, q, r⟩ := h
    exact ⟨a, vs, e, (h1 a _ n q).2, (h1 a _ n q).1, Reps.mono h1 h2 xs vs r⟩
  | .scr xs, v, h => by
    unfold Rep at h ⊢
    obtain ⟨a, vs, e, q, r⟩ := h
    refine ⟨a, vs, e, ?_, Reps.mono h1 h2 xs vs r⟩
    rcases q with ⟨n, q⟩ | q
    · exact .inl ⟨(rd_of h1 n q).2, (rd_of h1 n q).1⟩
    · exact .inr q
  | .dic ks xs, v, h => by
    unfold Rep at h ⊢
    obtain ⟨a, vs, u, e, n, q, d, r⟩ := h
    exact ⟨a, vs, u, e, (rd_of h1 n q).2, (rd_of h1 n q).1, d, Reps.mono h1 h2 xs vs r⟩
theorem Reps.mono (h1 : ∀ a o, ¬ pr a → H a = some o → H' a = some o ∧ ¬ pr' a) (h2 : ∀ a xs, Rd H a (.tup xs) → Rd H' a (.tup xs)) : ∀ (xs : List P) (vs : List V), Reps K H pr xs vs → Reps K H' pr' xs vs
  | [], _, h => h
  | x :: r, vs, h => by
    unfold Reps at h ⊢
    obtain ⟨v, s, e, a, b⟩ := h
    exact ⟨v, s, e, Rep.mono h1 h2 x v a, Reps.mono h1 h2 r s b⟩
end
theorem Rep.top : ∀ {x : P} {v : V}, Rep K H pr x v → RepT K H pr x v
  | .non, _, h => h
  | .bl _, _, h => h
  | .int _, _, h => h
  | .str _, _, h => h
  | .tup _, _, h => h
  | .scr _, _, h => h
  | .lst xs, v, h => by
    unfold Rep at h
    obtain ⟨a, vs, e, n, q, r⟩ := h
    exact ⟨a, vs, e, q, r⟩
  | .dic ks xs, v, h => by
    unfold Rep at h
    obtain ⟨a, vs, u, e, n, q, d, r⟩ := h
    exact ⟨a, vs, u, e, q, d, r⟩
theorem Reps.nil_iff {vs : List V} : Reps K H pr [] vs ↔ vs = [] := by unfold Reps; exact Iff.rfl
theorem Reps.cons_iff {x : P} {r : List P} {vs : List V} : Reps K H pr (x :: r) vs ↔ ∃ v s, vs = v :: s ∧ Rep K H pr x v ∧ Reps K H pr r s := by
  constructor
  · intro h
    unfold Reps at h
    exact h
  · intro h
    unfold Reps
    exact h
theorem Reps.len : ∀ {xs : List P} {vs : List V}, Reps K H pr xs vs → xs.length = vs.length
  | [], vs, h => by rw [Reps.nil_iff] at h; subst h; rfl
  | x :: r, vs, h => by
    rw [Reps.cons_iff] at h
    obtain ⟨v, s, rfl, _, q⟩ := h
    simp [Reps.len q]
theorem Reps.get : ∀ {xs : List P} {vs : List V} {i : Nat} {x : P}, Reps K H pr xs vs → xs[i]? = some x → ∃ v, vs[i]? = some v ∧ Rep K H pr x v
  | [], _, i, x, _, e => by simp at e
  | y :: r, vs, 0, x, h, e => by
    rw [Reps.cons_iff] at h
    obtain ⟨v, s, rfl, a, q⟩ := h
    simp at e
    subst e
    exact ⟨v, rfl, a⟩
  | y :: r, vs, i + 1, x, h, e => by
    rw [Reps.cons_iff] at h
    obtain ⟨v, s, rfl, a, q⟩ := h
    simp only [List.getElem?_cons_succ] at e ⊢
    exact Reps.get q e
theorem Reps.append : ∀ {xs ys : List P} {vs ws : List V}, Reps K H pr xs vs → Reps K H pr ys ws → Reps K H pr (xs ++ ys) (vs ++ ws)
  | [], ys, vs, ws, h, g => by rw [Reps.nil_iff] at h; subst h; exact g
  | x :: r, ys, vs, ws, h, g => by
    rw [Reps.cons_iff] at h
    obtain ⟨v, s, rfl, a, q⟩ := h
    rw [List.cons_append, Reps.cons_iff]
    exact ⟨v, s ++ ws, rfl, a, Reps.append q g⟩
theorem Reps.one {x : P} {v : V} (h : Rep K H pr x v) : Reps K H pr [x] [v] := Reps.cons_iff.mpr ⟨v, [], rfl, h, Reps.nil_iff.mpr rfl⟩
theorem Reps.drop : ∀ {xs : List P} {vs : List V} (n : Nat), Reps K H pr xs vs → Reps K H pr (xs.drop n) (vs.drop n)
  | _, _, 0, h => h
  | [], vs, n + 1, h => by rw [Reps.nil_iff] at h; subst h; exact Reps.nil_iff.mpr rfl
  | x :: r, vs, n + 1, h => by
    rw [Reps.cons_iff] at h
    obtain ⟨v, s, rfl, a, q⟩ := h
    exact Reps.drop n q
theorem Reps.take : ∀ {xs : List P} {vs : List V} (n : Nat), Reps K H pr xs vs → Reps K H pr (xs.take n) (vs.take n)
  | _, _, 0, h => Reps.nil_iff.mpr rfl
  | [], vs, n + 1, h => by rw [Reps.nil_iff] at h; subst h; exact Reps.nil_iff.mpr rfl
  | x :: r, vs, n + 1, h => by
    rw [Reps.cons_iff] at h
    obtain ⟨v, s, rfl, a, q⟩ := h
    exact Reps.cons_iff.mpr ⟨v, s.take n, rfl, a, Reps.take n q⟩
theorem Reps.set {y : P} {w : V} (hy : Rep K H pr y w) : ∀ {xs : List P} {vs : List V} (n : Nat), Reps K H pr xs vs → Reps K H pr (xs.set n y) (vs.set n w)
  | [], vs, n, h => by rw [Reps.nil_iff] at h; subst h; exact Reps.nil_iff.mpr rfl
  | x :: r, vs, 0, h => by
    rw [Reps.cons_iff] at h
    obtain ⟨v, s, rfl, a, q⟩ := h
    exact Reps.cons_iff.mpr ⟨w, s, rfl, hy, q⟩
  | x :: r, vs, n + 1, h => by
    rw [Reps.cons_iff] at h
    obtain ⟨v, s, rfl, a, q⟩ := h
    exact Reps.cons_iff.mpr ⟨v, s.set n w, rfl, a, Reps.set hy n q⟩
theorem Reps.reverse : ∀ {xs : List P} {vs : List V}, Reps K H pr xs vs → Reps K H pr xs.reverse vs.reverse
  | [], vs, h => by rw [Reps.nil_iff] at h; subst h; exact Reps.nil_iff.mpr rfl
  | x :: r, vs, h => by
    rw [Reps.cons_iff] at h
    obtain ⟨v, s, rfl, a, q⟩ := h
    rw [List.reverse_cons, List.reverse_cons]
    exact Reps.append (Reps.reverse q) (Reps.one a)
theorem Reps.eraseIdx : ∀ {xs : List P} {vs : List V} (n : Nat), Reps K H pr xs vs → Reps K H pr (xs.eraseIdx n) (vs.eraseIdx n)
  | [], vs, n, h => by rw [Reps.nil_iff] at h; subst h; exact Reps.nil_iff.mpr rfl
  | x :: r, vs, 0, h => by
    rw [Reps.cons_iff] at h
    obtain ⟨v, s, rfl, a, q⟩ := h
    exact q
  | x :: r, vs, n + 1, h => by
    rw [Reps.cons_iff] at h
    obtain ⟨v, s, rfl, a, q⟩ := h
    exact Reps.cons_iff.mpr ⟨v, s.eraseIdx n, rfl, a, Reps.eraseIdx n q⟩
theorem RepTs.nil_iff {vs : List V} : RepTs K H pr [] vs ↔ vs = [] := Iff.rfl
theorem RepTs.cons_iff {x : P} {r : List P} {vs : List V} : RepTs K H pr (x :: r) vs ↔ ∃ v s, vs = v :: s ∧ RepT K H pr x v ∧ RepTs K H pr r s := Iff.rfl
end

/-! ### worlds -/
/-- where the objects of the store stand (none: given up); B: what must not be spoken of besides -/
abbrev Mp := List (Option Addr)
def Pr (m : Mp) (B : Addr → Prop) (a : Addr) : Prop := some a ∈ m ∨ B a
structure Ext (m : Mp) (H : Hp) (m' : Mp) (H' : Hp) : Prop where
  len : m.length ≤ m'.length
  keep : ∀ (i : Nat) (x : Option Addr), m[i]? = some x → m'[i]? = some x ∨ m'[i]? = some none
  obj : ∀ a o, some a ∉ m → H a = some o → H' a = some o ∧ some a ∉ m'
  tup : ∀ a xs, Rd H a (.tup xs) → Rd H' a (.tup xs)
  dom : ∀ a, H a ≠ none → H' a ≠ none
theorem Ext.refl {m : Mp} {H : Hp} : Ext m H m H := ⟨Nat.le_refl _, fun _ _ e => .inl e, fun _ _ n e => ⟨e, n⟩, fun _ _ e => e, fun _ e => e⟩
theorem Ext.trans {m m1 m2 : Mp} {H H1 H2 : Hp} (a : Ext m H m1 H1) (b : Ext m1 H1 m2 H2) : Ext m H m2 H2 where
  len := Nat.le_trans a.len b.len
  keep := fun i x e => by
    rcases a.keep i x e with h | h
    · exact b.keep i x h
    · rcases b.keep i none h with h | h
      · exact .inr h
      · exact .inr h
  obj := fun c o n e => by
    obtain ⟨e1, n1⟩ := a.obj c o n e
    exact b.obj c o n1 e1
  tup := fun c xs e => b.tup c xs (a.tup c xs e)
  dom := fun c e => b.dom c (a.dom c e)
/-- all that was tracked is there as it was -/
theorem Ext.same {m : Mp} {H H' : Hp} (s : Same H H') : Ext m H m H' :=
  ⟨Nat.le_refl _, fun _ _ e => .inl e, fun _ _ n e => ⟨s _ _ e, n⟩, fun _ _ e => by
    rcases e with e | ⟨o, e⟩
    · exact .inl (s _ _ e)
    · exact .inr ⟨o, s _ _ e⟩, fun a e => by
    cases q : H a with
    | none => exact absurd q e
    | some o => rw [s _ _ q]; exact fun z => nomatch z⟩

def RepD (K : PySem.W.Frag) (H : Hp) (m : Mp) (B : Addr → Prop) : D → V → Prop
  | .p x, v => Rep K H (Pr m B) x v
  | .ref l, v => match m[l]? with
    | some (some a) => v = .ref a
    | some none => True
    | none => False
  | .exc _ _, _ => False
def RepDs (K : PySem.W.Frag) (H : Hp) (m : Mp) (B : Addr → Prop) : List D → List V → Prop
  | [], vs => vs = []
  | d :: r, vs => ∃ v s, vs = v :: s ∧ RepD K H m B d v ∧ RepDs K H m B r s
def RepO (K : PySem.W.Frag) (H : Hp) (m : Mp) (B : Addr → Prop) (a : Addr) : O → Prop
  | .lst xs => ∃ vs, H a = some (.lst vs) ∧ Reps K H (Pr m B) xs vs
  | .dic kvs => ∃ vs u, H a = some u ∧ DicO (kvs.map (·.1)) vs u ∧ Reps K H (Pr m B) (kvs.map (·.2)) vs
  | .dir kvs => ∃ vs u, H a = some u ∧ DicO (kvs.map (·.1)) vs u ∧ RepDs K H m B (kvs.map fun p => .ref p.2) vs
  | .dead => False
structure RelS (K : PySem.W.Frag) (m : Mp) (B : Addr → Prop) (S : Store) (H : Hp) : Prop where
  len : m.length = S.length
  inj : ∀ (i j : Nat) (a : Addr), m[i]? = some (some a) → m[j]? = some (some a) → i = j
  ob : ∀ (i : Nat) (a : Addr), m[i]? = some (some a) → ∃ o, S[i]? = some o ∧ RepO K H m B a o
  dead : ∀ i : Nat, m[i]? = some none → S[i]? = some .dead
  bd : ∀ a, B a → H a ≠ none ∧ some a ∉ m
structure RelE (K : PySem.W.Frag) (m : Mp) (B : Addr → Prop) (e : Env) (σ : L2.St) (H : Hp) : Prop where
  len : e.length = σ.length
  at_ : ∀ (i : Nat) (d : D), e[i]? = some (some d) → ∃ v, σ[i]? = some (some v) ∧ RepD K H m B d v
section
variable {K : PySem.W.Frag} {H H' : Hp} {m m' : Mp} {B : Addr → Prop} {S : Store}
theorem RelS.live (r : RelS K m B S H) {a : Addr} (h : some a ∈ m) : H a ≠ none := by
  obtain ⟨i, e⟩ := List.mem_iff_getElem?.mp h
  obtain ⟨o, _, q⟩ := r.ob i a e
  cases o with
  | lst xs => obtain ⟨vs, e, _⟩ := q; rw [e]; exact fun z => nomatch z
  | dic kvs => obtain ⟨vs, u, e, _⟩ := q; rw [e]; exact fun z => nomatch z
  | dir kvs => obtain ⟨vs, u, e, _⟩ := q; rw [e]; exact fun z => nomatch z
  | dead => exact q.elim
theorem RelS.pr (r : RelS K m B S H) {a : Addr} (h : Pr m B a) : H a ≠ none := by
  rcases h with h | h
  · exact r.live h
  · exact (r.bd a h).1
theorem Ext.rd (x : Ext m H m' H') {a : Addr} {u : HO} (n : some a ∉ m) (h : Rd H a u) : Rd H' a u := by
  rcases h with h | ⟨o, h⟩
  · exact .inl (x.obj a _ n h).1
  · exact .inr ⟨o, (x.obj a _ n h).1⟩
theorem Rd.ne {a : Addr} {u : HO} (h : Rd H a u) : H a ≠ none := by
  rcases h with h | ⟨o, h⟩ <;> rw [h] <;> exact fun z => nomatch z
theorem Ext.off (x : Ext m H m' H') {a : Addr} (n : some a ∉ m) (h : H a ≠ none) : some a ∉ m' := by
  cases q : H a with
  | none => exact absurd q h
  | some o => exact (x.obj a o n q).2
theorem Ext.rep (x : Ext m H m' H') {y : P} {v : V} (h : Rep K H (Pr m B) y v) : Rep K H' (Pr m' B) y v :=
  h.mono (fun a u n r => ⟨(x.obj a u (fun z => n (.inl z)) r).1, fun z => by
    rcases z with z | z
    · exact (x.obj a u (fun z => n (.inl z)) r).2 z
    · exact n (.inr z)⟩) x.tup
theorem Ext.reps (x : Ext m H m' H') {ys : List P} {vs : List V} (h : Reps K H (Pr m B) ys vs) : Reps K H' (Pr m' B) ys vs :=
  h.mono (fun a u n r => ⟨(x.obj a u (fun z => n (.inl z)) r).1, fun z => by
    rcases z with z | z
    · exact (x.obj a u (fun z => n (.inl z)) r).2 z
    · exact n (.inr z)⟩) x.tup
theorem Ext.repD (x : Ext m H m' H') : ∀ {d : D} {v : V}, RepD K H m B d v → RepD K H' m' B d v
  | .p y, v, h => x.rep h
  | .ref l, v, h => by
    dsimp only [RepD] at h ⊢
    cases e : m[l]? with
    | none => rw [e] at h; exact h.elim
    | some y =>
      rw [e] at h
      rcases x.keep l y e with q | q
      · rw [q]
        exact h
      · rw [q]
        trivial
  | .exc _ _, _, h => h
theorem Ext.repDs (x : Ext m H m' H') : ∀ {ds : List D} {vs : List V}, RepDs K H m B ds vs → RepDs K H' m' B ds vs
  | [], _, h => h
  | d :: r, vs, h => by
    obtain ⟨v, s, e, a, b⟩ := h
    exact ⟨v, s, e, x.repD a, x.repDs b⟩
theorem Ext.relE (x : Ext m H m' H') {e : Env} {σ : L2.St} (h : RelE K m B e σ H) : RelE K m' B e σ H' := ⟨h.len, fun i d q => by
  obtain ⟨v, q1, q2⟩ := h.at_ i d q
  exact ⟨v, q1, x.repD q2⟩⟩
theorem RelS.same (r : RelS K m B S H) (s : Same H H') : RelS K m B S H' where
  len := r.len
  inj := r.inj
  ob := fun i a e => by
    obtain ⟨o, q, h⟩ := r.ob i a e
    refine ⟨o, q, ?_⟩
    have x : Ext m H m H' := Ext.same s
    cases o with
    | lst xs =>
      obtain ⟨vs, e, h⟩ := h
      exact ⟨vs, s _ _ e, x.reps h⟩
    | dic kvs =>
      obtain ⟨vs, u, e, d, h⟩ := h
      exact ⟨vs, u, s _ _ e, d, x.reps h⟩
    | dir kvs =>
      obtain ⟨vs, u, e, d, h⟩ := h
      exact ⟨vs, u, s _ _ e, d, x.repDs h⟩
    | dead => exact h.elim
  dead := r.dead
  bd := fun a h => ⟨(Ext.same (m := m) s).dom a (r.bd a h).1, (r.bd a h).2⟩
theorem RelE.set {e : Env} {σ : L2.St} {d : D} {v : V} (h : RelE K m B e σ H) (r : RepD K H m B d v) (i : Nat) : RelE K m B (e.set i (some d)) (σ.set i (some v)) H := ⟨by simp [h.len], fun j d' q => by
  by_cases hj : i = j
  · subst hj
    by_cases hl : i < e.length
    · rw [List.getElem?_set_self hl] at q
      cases q
      exact ⟨v, by rw [List.getElem?_set_self (by rw [← h.len]; exact hl)], r⟩
    · rw [List.getElem?_eq_none (by simpa using Nat.le_of_not_lt hl)] at q
      cases q
  · rw [List.getElem?_set_ne hj] at q ⊢
    exact h.at_ j d' q⟩
theorem RelE.clear {e : Env} {σ : L2.St} (h : RelE K m B e σ H) (i : Nat) : RelE K m B (e.set i none) (σ.set i none) H := ⟨by simp [h.len], fun j d' q => by
  by_cases hj : i = j
  · subst hj
    by_cases hl : i < e.length
    · rw [List.getElem?_set_self hl] at q
      cases q
    · rw [List.getElem?_eq_none (by simpa using Nat.le_of_not_lt hl)] at q
      cases q
  · rw [List.getElem?_set_ne hj] at q ⊢
    exact h.at_ j d' q⟩
theorem RelE.wipe {e : Env} {σ : L2.St} (h : RelE K m B e σ H) : ∀ vs : List Nat, RelE K m B (wipeD e vs) (L2.wipe σ vs) H
  | [] => h
  | v :: vs => (RelE.wipe h vs).clear v
theorem RepD.top {d : D} {v : V} {x : P} (rs : RelS K m B S H) (h : RepD K H m B d v) (e : val S d = some x) : RepT K H (Pr m B) x v := by
  cases d with
  | p y =>
    cases e
    exact Rep.top h
  | exc c fs => cases e
  | ref l =>
    dsimp only [RepD] at h
    cases q : m[l]? with
    | none => rw [q] at h; exact h.elim
    | some o =>
      rw [q] at h
      cases o with
      | none =>
        have z := rs.dead l q
        simp [val, z, oval] at e
      | some a =>
        subst h
        obtain ⟨o, q1, q2⟩ := rs.ob l a q
        simp only [val, q1, Option.bind_some] at e
        cases o with
        | lst xs =>
          cases e
          obtain ⟨vs, e1, r⟩ := q2
          exact ⟨a, vs, rfl, e1, r⟩
        | dic kvs =>
          cases e
          obtain ⟨vs, u, e1, d, r⟩ := q2
          exact ⟨a, vs, u, rfl, .inl e1, d, r⟩
        | dir kvs => cases e
        | dead => cases e
theorem RepDs.top (rs : RelS K m B S H) : ∀ {ds : List D} {vs : List V} {xs : List P}, RepDs K H m B ds vs → vals S ds = some xs → RepTs K H (Pr m B) xs vs
  | [], vs, xs, h, e => by
    cases e
    exact h
  | d :: r, vs, xs, h, e => by
    obtain ⟨v, s, rfl, a, b⟩ := h
    unfold vals at e
    cases e1 : val S d with
    | none => rw [e1] at e; cases e
    | some x =>
      cases e2 : vals S r with
      | none => rw [e1, e2] at e; cases e
      | some ys =>
        rw [e1, e2] at e
        cases e
        exact ⟨v, s, rfl, a.top rs e1, RepDs.top rs b e2⟩
theorem RepDs.len : ∀ {ds : List D} {vs : List V}, RepDs K H m B ds vs → ds.length = vs.length
  | [], _, h => by rw [show _ = [] from h]; rfl
  | d :: r, vs, h => by
    obtain ⟨v, s, rfl, a, b⟩ := h
    simp [b.len]
end
end DL

set_option maxRecDepth 100000
set_option maxHeartbeats 1000000
/-! DJ: the judgements, and the rules of expressions -/
namespace DL
open PySem PySem.Spec PyProof.Rows L2

theorem R.bind_assoc {α β γ : Type} (r : R α) (f : α → Store → R β) (g : β → Store → R γ) : (r.bind f).bind g = r.bind fun a S => (f a S).bind g := by
  cases r <;> rfl

/-- the classes of exceptions: where, the names of the fields -/
abbrev Cls_ := Nat → Option (Addr × List Str)
/-- an exception as it flies -/
def XR (K : PySem.W.Frag) (cl : Cls_) (H : Hp) (m : Mp) (B : Addr → Prop) (c : Nat) (fs : List P) (cls : Value) (dd : Option Addr) : Prop :=
  ∃ C names, cl c = some (C, names) ∧ cls = .ref C ∧ (names = [] ∧ fs = [] ∨
    ∃ d fv, dd = some d ∧ H d = some (.xd fv) ∧ some d ∉ m ∧ fv.map (·.1) = names ∧ Reps K H (Pr m B) fs (fv.map (·.2)))

abbrev Rp (α β : Type) := Hp → Mp → (Addr → Prop) → α → β → Prop
section
variable (K : PySem.W.Frag) (cl : Cls_) (W : WX)
def EndG {α β : Type} (rep : Rp α β) (m : Mp) (B : Addr → Prop) (σ : L2.St) (H : Hp) (r : R α) (Q : β → Hp → Prop) : Prop :=
  match r with
  | .ok a S' => ∀ m' H' b, Ext m H m' H' → RelS K m' B S' H' → rep H' m' B a b → Q b H'
  | .ex c fs S' => ∀ m' H' cls dd, Ext m H m' H' → RelS K m' B S' H' → XR K cl H' m' B c fs cls dd → W cls dd σ H'
  | .no => False
def tG {α β : Type} (rep : Rp α β) (f : Env → Store → R α) : L2.St → Hp → (β → Hp → Prop) → Prop := fun σ H Q =>
  ∃ m B e S, RelS K m B S H ∧ RelE K m B e σ H ∧ EndG K cl W rep m B σ H (f e S) Q
end
def rD (K : PySem.W.Frag) : Rp D V := fun H m B d v => RepD K H m B d v
def rDs (K : PySem.W.Frag) : Rp (List D) (List V) := fun H m B d v => RepDs K H m B d v
def rB : Rp Bool Bool := fun _ _ _ a b => a = b
def testD (r : R D) : R Bool := r.bind fun d S => match trueD d with
  | some b => .ok b S
  | none => .no
def DE (X : Cx) (cl : Cls_) (W : WX) (e : Expr) (f : Env → Store → R D) : Prop := PE X e (tG X.K cl W (rD X.K) f)
def DA (X : Cx) (cl : Cls_) (W : WX) (es : List Expr) (f : Env → Store → R (List D)) : Prop := PA X es (tG X.K cl W (rDs X.K) f)
def DT (X : Cx) (cl : Cls_) (W : WX) (e : Expr) (f : Env → Store → R D) : Prop := PT X e (tG X.K cl W rB fun e S => testD (f e S))
def DW (X : Cx) (cl : Cls_) (W : WX) (e : Expr) (f : Env → Store → R D) : Prop := PW X e (tG X.K cl W rB fun e S => testD (f e S))

theorem PE.imp {X : Cx} {e : Expr} {t t' : TE} (h : PE X e t) (i : ∀ σ H Q, t' σ H Q → t σ H Q) : PE X e t' := ⟨fun pins s σ H Q I q => h.run pins s σ H Q I (i σ H Q q)⟩
theorem PT.imp {X : Cx} {e : Expr} {t t' : TT} (h : PT X e t) (i : ∀ σ H Q, t' σ H Q → t σ H Q) : PT X e t' := ⟨fun pins s σ H Q I q => h.run pins s σ H Q I (i σ H Q q)⟩
theorem PW.imp {X : Cx} {e : Expr} {t t' : TT} (h : PW X e t) (i : ∀ σ H Q, t' σ H Q → t σ H Q) : PW X e t' := ⟨fun wh pins s σ H Q I q => h.run wh pins s σ H Q I (i σ H Q q)⟩
theorem PA.imp {X : Cx} {es : List Expr} {t t' : TA} (h : PA X es t) (i : ∀ σ H Q, t' σ H Q → t σ H Q) : PA X es t' := ⟨fun pos pins s σ H Q I q => h.run pos pins s σ H Q I (i σ H Q q)⟩

section
variable {K : PySem.W.Frag} {cl : Cls_} {W : WX} {α β γ δ : Type} {rep : Rp α β} {rep2 : Rp γ δ} {m m1 : Mp} {B : Addr → Prop} {σ : L2.St} {H H1 : Hp} {S : Store} {e : Env}
theorem EndG.ext {r : R α} {Q : β → Hp → Prop} (x : Ext m H m1 H1) (h : EndG K cl W rep m B σ H r Q) : EndG K cl W rep m1 B σ H1 r Q := by
  cases r with
  | ok a S => exact fun m' H' b x' rs rp => h m' H' b (x.trans x') rs rp
  | ex c fs S => exact fun m' H' cls dd x' rs xr => h m' H' cls dd (x.trans x') rs xr
  | no => exact h
theorem EndG.here {a : α} {b : β} {Q : β → Hp → Prop} (h : EndG K cl W rep m B σ H (.ok a S) Q) (rs : RelS K m B S H) (rp : rep H m B a b) : Q b H := h m H b .refl rs rp
theorem tG_bind {f : Env → Store → R α} {k : α → Store → R γ} {Q : δ → Hp → Prop} {Q1 : β → Hp → Prop} (hS : RelS K m B S H) (hE : RelE K m B e σ H) (h : EndG K cl W rep2 m B σ H ((f e S).bind k) Q)
    (next : ∀ a S1 m1 H1 b, Ext m H m1 H1 → RelS K m1 B S1 H1 → RelE K m1 B e σ H1 → rep H1 m1 B a b → EndG K cl W rep2 m1 B σ H1 (k a S1) Q → f e S = .ok a S1 → Q1 b H1) : tG K cl W rep f σ H Q1 := by
  refine ⟨m, B, e, S, hS, hE, ?_⟩
  cases q : f e S with
  | ok a S1 =>
    rw [q] at h
    exact fun m' H' b x rs rp => next a S1 m' H' b x rs (x.relE hE) rp (EndG.ext x h) q
  | ex c fs S1 =>
    rw [q] at h
    exact h
  | no =>
    rw [q] at h
    exact h.elim
theorem tG_mono {f : Env → Store → R α} {Q Q1 : β → Hp → Prop} (h : tG K cl W rep f σ H Q) (i : ∀ b H', Q b H' → Q1 b H') : tG K cl W rep f σ H Q1 := by
  obtain ⟨m, B, e, S, hS, hE, h⟩ := h
  refine ⟨m, B, e, S, hS, hE, ?_⟩
  cases q : f e S with
  | ok a S1 =>
    rw [q] at h
    exact fun m' H' b x rs rp => i _ _ (h m' H' b x rs rp)
  | ex c fs S1 =>
    rw [q] at h
    exact h
  | no =>
    rw [q] at h
    exact h
end

/-- a rule by values says what f says -/
def OpV (K : PySem.W.Frag) (r : List V → Hp → VK → Prop) (f : List P → Option P) : Prop :=
  ∀ (H : Hp) (pr : Addr → Prop) (xs : List P) (vs : List V) (y : P) (Q : VK), (∀ a, pr a → H a ≠ none) → RepTs K H pr xs vs → f xs = some y → (∀ H' v, Same H H' → Rep K H' pr y v → Q v H') → r vs H Q
def rOf2 (r : R2) : List V → Hp → VK → Prop := fun vs H Q => ∀ x y, vs = [x, y] → r x y H Q
def rOf1 (r : V → Hp → VK → Prop) : List V → Hp → VK → Prop := fun vs H Q => ∀ x, vs = [x] → r x H Q
theorem OpV.two {K : PySem.W.Frag} {r : R2} {f : List P → Option P} (h : ∀ (H : Hp) (pr : Addr → Prop) (x y : P) (v w : V) (z : P) (Q : VK), (∀ a, pr a → H a ≠ none) → RepT K H pr x v → RepT K H pr y w → f [x, y] = some z → (∀ H' u, Same H H' → Rep K H' pr z u → Q u H') → r v w H Q)
    (h2 : ∀ xs z, f xs = some z → ∃ x y, xs = [x, y]) : OpV K (rOf2 r) f := by
  intro H pr xs vs y Q hp hr hf hq v w e
  obtain ⟨a, b, rfl⟩ := h2 xs y hf
  obtain ⟨v1, s1, e1, r1, v2, s2, e2, r2, e3⟩ := hr
  subst e
  cases e1
  cases e2
  exact h H pr a b _ _ y Q hp r1 r2 hf hq
theorem OpV.one {K : PySem.W.Frag} {r : V → Hp → VK → Prop} {f : List P → Option P} (h : ∀ (H : Hp) (pr : Addr → Prop) (x : P) (v : V) (z : P) (Q : VK), (∀ a, pr a → H a ≠ none) → RepT K H pr x v → f [x] = some z → (∀ H' u, Same H H' → Rep K H' pr z u → Q u H') → r v H Q)
    (h2 : ∀ xs z, f xs = some z → ∃ x, xs = [x]) : OpV K (rOf1 r) f := by
  intro H pr xs vs y Q hp hr hf hq v e
  obtain ⟨a, rfl⟩ := h2 xs y hf
  obtain ⟨v1, s1, e1, r1, e3⟩ := hr
  subst e
  cases e1
  exact h H pr a _ y Q hp r1 hf hq

section
variable {X : Cx} {cl : Cls_} {W : WX} {rn : Rn} {pos : Pos}
def opK (f : List P → Option P) (ds : List D) (S : Store) : R D := match vals S ds with
    | some xs => (match f xs with
      | some y => .ok (.p y) S
      | none => .no)
    | none => .no
theorem op_fin {K : PySem.W.Frag} {r : List V → Hp → VK → Prop} {f : List P → Option P} {m : Mp} {B : Addr → Prop} {σ : L2.St} {H : Hp} {S : Store} {ds : List D} {vs : List V} {Q : VK} (ho : OpV K r f) (rs : RelS K m B S H) (rd : RepDs K H m B ds vs)
    (h : EndG K cl W (rD K) m B σ H (opK f ds S) Q) : r vs H Q := by
  unfold opK at h
  cases e1 : vals S ds with
  | none => rw [e1] at h; exact h.elim
  | some xs =>
    rw [e1] at h
    dsimp only at h
    cases e2 : f xs with
    | none => rw [e2] at h; exact h.elim
    | some y =>
      rw [e2] at h
      exact ho H (Pr m B) xs vs y Q (fun a p => rs.pr p) (rd.top rs e1) e2 fun H' v s rp => h m H' v (.same s) (rs.same s) rp

/-! ### constants and names -/
theorem de_int {i : Int} {j : Nat} : DE X cl W (.Constant (.int i) j pos) (evE rn (.c (.int i))) := PE.imp pe_int fun σ H Q h => by
  obtain ⟨m, B, e, S, hS, hE, h⟩ := h
  exact EndG.here h hS rfl
theorem de_bl {b : Bool} {j : Nat} : DE X cl W (.Constant (.bool b) j pos) (evE rn (.c (.bl b))) := PE.imp pe_bl fun σ H Q h => by
  obtain ⟨m, B, e, S, hS, hE, h⟩ := h
  exact EndG.here h hS rfl
theorem de_non {j : Nat} : DE X cl W (.Constant .none j pos) (evE rn (.c .non)) := PE.imp pe_non fun σ H Q h => by
  obtain ⟨m, B, e, S, hS, hE, h⟩ := h
  exact EndG.here h hS rfl
theorem de_str {x : List Nat} {j : Nat} {s : Str} (hs : s = strV x) (hl : okS x) : DE X cl W (.Constant (.str s) j pos) (evE rn (.c (.str x))) := PE.imp pe_str fun σ H Q h => by
  obtain ⟨m, B, e, S, hS, hE, h⟩ := h
  exact EndG.here h hS ⟨by rw [hs], hl⟩
theorem de_var (i : Nat) {x : Str} (hN : X.N[i]? = some x) (hv : Vis X.env.scope x) (hd : (x == ("__debug__" : Str)) = false) (hcd : (x == ("__classdict__" : Str)) = false) : DE X cl W (.Name x pos) (evE rn (.v i)) :=
  PE.imp (pe_var hN hv hd hcd) fun σ H Q h => by
    obtain ⟨m, B, e, S, hS, hE, h⟩ := h
    simp only [evE] at h
    cases q : e[i]? with
    | none => rw [q] at h; exact h.elim
    | some o =>
      cases o with
      | none => rw [q] at h; exact h.elim
      | some d =>
        rw [q] at h
        obtain ⟨v, q1, q2⟩ := hE.at_ i d q
        exact ⟨v, q1, EndG.here h hS q2⟩
/-- a module's constant -/
theorem de_glob {x : Str} {v : V} {u : Value} {y : P} (hg : Gl X x) (hm : X.mg x = some u) (r : RelV v u) (rp : ∀ H pr, Rep X.K H pr y v) (hd : (x == ("__debug__" : Str)) = false) : DE X cl W (.Name x pos) (evE rn (.c y)) :=
  PE.imp (pe_glob hg hm r hd) fun σ H Q h => by
    obtain ⟨m, B, e, S, hS, hE, h⟩ := h
    exact EndG.here h hS (rp _ _)

/-! ### argument lists -/
theorem da_nil : DA X cl W [] (evEs rn .nil) := PA.imp pa_nil fun σ H Q h => by
  obtain ⟨m, B, e, S, hS, hE, h⟩ := h
  exact EndG.here h hS rfl
theorem da_cons {a : Expr} {es : List Expr} {i : IE} {is : IEs} (ha : DE X cl W a (evE rn i)) (hr : DA X cl W es (evEs rn is)) (hs : starEach (a :: es) X.env = (false, eval a X.env) :: starEach es X.env) : DA X cl W (a :: es) (evEs rn (.cons i is)) :=
  PA.imp (pa_cons ha hr hs) fun σ H Q h => by
    obtain ⟨m, B, e, S, hS, hE, h⟩ := h
    simp only [evEs] at h
    refine tG_bind hS hE h fun d S1 m1 H1 v x1 hS1 hE1 r1 h1 eq1 => ?_
    refine tG_bind hS1 hE1 h1 fun ds S2 m2 H2 vs x2 hS2 hE2 r2 h2 eq2 => ?_
    exact EndG.here h2 hS2 ⟨v, vs, rfl, x2.repD r1, r2⟩

/-! ### operators -/
theorem ev_op2 (f : List P → Option P) (i j : IE) (e : Env) (S : Store) : evE rn (.op f (.cons i (.cons j .nil))) e S = (evE rn i e S).bind fun d S1 => (evE rn j e S1).bind fun d' S2 => opK f [d, d'] S2 := by
  simp only [evE, evEs, R.bind_assoc, R.bind_ok]
  rfl
theorem ev_op1 (f : List P → Option P) (i : IE) (e : Env) (S : Store) : evE rn (.op f (.cons i .nil)) e S = (evE rn i e S).bind fun d S1 => opK f [d] S1 := by
  simp only [evE, evEs, R.bind_assoc, R.bind_ok]
  rfl
theorem ev_ops (f : List P → Option P) (is : IEs) (e : Env) (S : Store) : evE rn (.op f is) e S = (evEs rn is e S).bind fun ds S1 => opK f ds S1 := by
  simp only [evE]
  rfl
theorem tOp_of {r : R2} {f : List P → Option P} {i j : IE} (ho : OpV X.K (rOf2 r) f) {σ : L2.St} {H : Hp} {Q : VK} (h : tG X.K cl W (rD X.K) (evE rn (.op f (.cons i (.cons j .nil)))) σ H Q) :
    tOp r (tG X.K cl W (rD X.K) (evE rn i)) (tG X.K cl W (rD X.K) (evE rn j)) σ H Q := by
  obtain ⟨m, B, e, S, hS, hE, h⟩ := h
  rw [ev_op2] at h
  refine tG_bind hS hE h fun d S1 m1 H1 v x1 hS1 hE1 r1 h1 eq1 => ?_
  refine tG_bind hS1 hE1 h1 fun d' S2 m2 H2 v' x2 hS2 hE2 r2 h2 eq2 => ?_
  exact op_fin (ds := [d, d']) (vs := [v, v']) ho hS2 ⟨v, [v'], rfl, x2.repD r1, v', [], rfl, r2, rfl⟩ h2 v v' rfl
theorem de_bin {op : Operator} {r : R2} {f : List P → Option P} {a b : Expr} {i j : IE} (ho : OpR X (binaryOp op) r) (hv : OpV X.K (rOf2 r) f) (ha : DE X cl W a (evE rn i)) (hb : DE X cl W b (evE rn j)) :
    DE X cl W (.BinOp a op b pos) (evE rn (.op f (.cons i (.cons j .nil)))) := PE.imp (pe_op ho ha hb) fun _ _ _ h => tOp_of hv h
theorem de_un {op : UnaryOp} {r : V → Hp → VK → Prop} {f : List P → Option P} {a : Expr} {i : IE} (ho : UnR X (unaryOp op) r) (hv : OpV X.K (rOf1 r) f) (ha : DE X cl W a (evE rn i)) :
    DE X cl W (.UnaryOp op a pos) (evE rn (.op f (.cons i .nil))) := PE.imp (pe_un ho ha) fun σ H Q h => by
  obtain ⟨m, B, e, S, hS, hE, h⟩ := h
  rw [ev_op1] at h
  refine tG_bind hS hE h fun d S1 m1 H1 v x1 hS1 hE1 r1 h1 eq1 => ?_
  exact op_fin (ds := [d]) (vs := [v]) hv hS1 ⟨v, [], rfl, r1, rfl⟩ h1 v rfl
theorem de_cmp {op : CmpOp} {r : R2} {f : List P → Option P} {a b : Expr} {i j : IE} (ho : OpR X (compareOp op) r) (hv : OpV X.K (rOf2 r) f) (ha : DE X cl W a (evE rn i)) (hb : DE X cl W b (evE rn j)) (hm : behindInMarks op b = false) :
    DE X cl W (.Compare a [op] [b] pos) (evE rn (.op f (.cons i (.cons j .nil)))) := PE.imp (pe_cmpR ho ha hb hm) fun _ _ _ h => tOp_of hv h
theorem de_ix {r : R2} {f : List P → Option P} {a b : Expr} {i j : IE} (ho : IxR X r) (hv : OpV X.K (rOf2 r) f) (ha : DE X cl W a (evE rn i)) (hb : DE X cl W b (evE rn j)) (hs : PlainIx b) :
    DE X cl W (.Subscript a b pos) (evE rn (.op f (.cons i (.cons j .nil)))) := PE.imp (pe_ix ho ha hb hs) fun _ _ _ h => tOp_of hv h
theorem tCB_of {r : List V → Hp → VK → Prop} {f : List P → Option P} {is : IEs} (ho : OpV X.K r f) {σ : L2.St} {H : Hp} {Q : VK} (h : tG X.K cl W (rD X.K) (evE rn (.op f is)) σ H Q) : tCB r (tG X.K cl W (rDs X.K) (evEs rn is)) σ H Q := by
  obtain ⟨m, B, e, S, hS, hE, h⟩ := h
  rw [ev_ops] at h
  refine tG_bind hS hE h fun ds S1 m1 H1 vs x1 hS1 hE1 r1 h1 eq1 => ?_
  exact op_fin ho hS1 r1 h1
theorem de_callB {x : Str} {p : Pos} {id : String} {r : List V → Hp → VK → Prop} {f : List P → Option P} {a : Expr} {es : List Expr} {is : IEs} (hc : CallR X (.builtin id) r) (hv : OpV X.K r f) (hg : Gl X x) (hm : X.mg x = none) (hb : bootBuiltins x = some (.builtin id))
    (ha : DA X cl W (a :: es) (evEs rn is)) (hn : x ≠ "__name__") (hdb : (x == ("__debug__" : Str)) = false) (he : starEach (a :: es) X.env = (false, eval a X.env) :: starEach es X.env) (hpl : (backTo pos (starEach es X.env)).any (·.1) = false) :
    DE X cl W (.Call (.Name x p) (a :: es) [] pos) (evE rn (.op f is)) := PE.imp (pe_callB hc hg hm hb ha hn hdb he hpl) fun _ _ _ h => tCB_of hv h
theorem de_callTy {x : Str} {p : Pos} {T : String} {r : List V → Hp → VK → Prop} {f : List P → Option P} {a : Expr} {es : List Expr} {is : IEs} (hc : CallR X (.type T) r) (hv : OpV X.K r f) (hg : Gl X x) (hm : X.mg x = none) (hb : bootBuiltins x = some (.type T))
    (ha : DA X cl W (a :: es) (evEs rn is)) (hn : x ≠ "__name__") (hdb : (x == ("__debug__" : Str)) = false) (he : starEach (a :: es) X.env = (false, eval a X.env) :: starEach es X.env) (hpl : (backTo pos (starEach es X.env)).any (·.1) = false) :
    DE X cl W (.Call (.Name x p) (a :: es) [] pos) (evE rn (.op f is)) := PE.imp (pe_callTy hc hg hm hb ha hn hdb he hpl) fun _ _ _ h => tCB_of hv h
end
end DL

set_option maxRecDepth 100000
set_option maxHeartbeats 1000000
/-! DJ2: tests, displays, new objects, methods, calls -/
namespace DL
open PySem PySem.Spec PyProof.Rows L2

section
variable {X : Cx} {cl : Cls_} {W : WX} {rn : Rn} {pos : Pos}
/-! ### tests -/
theorem test_of {K : PySem.W.Frag} {f : Env → Store → R D} {σ : L2.St} {H : Hp} {Q : Bool → Hp → Prop} (h : tG K cl W rB (fun e S => testD (f e S)) σ H Q) : tG K cl W (rD K) f σ H fun x H' => ∃ k, x = .bl k ∧ Q k H' := by
  obtain ⟨m, B, e, S, hS, hE, h⟩ := h
  refine tG_bind hS hE (show EndG K cl W rB m B σ H ((f e S).bind _) Q from h) fun d S1 m1 H1 v x1 hS1 hE1 r1 h1 eq1 => ?_
  cases d with
  | p y =>
    cases y with
    | bl b => exact ⟨b, r1, EndG.here h1 hS1 rfl⟩
    | non => exact h1.elim
    | int i => exact h1.elim
    | str z => exact h1.elim
    | tup z => exact h1.elim
    | lst z => exact h1.elim
    | scr z => exact h1.elim
    | dic y z => exact h1.elim
  | ref l => exact h1.elim
  | exc c fs => exact h1.elim
theorem dt_val {a : Expr} {f : Env → Store → R D} (h : DE X cl W a f) (he : ∀ whole, isTrue a X.env whole = (do let v ← whole; standAt a.pos; holding [v] (truthy v))) : DT X cl W a f :=
  PT.imp (pt_val h he) fun σ H Q h => test_of h
theorem dt_cmp {op : CmpOp} {r : R2} {f : List P → Option P} {a b : Expr} {i j : IE} (ho : OpR X (compareOp op) r) (hv : OpV X.K (rOf2 r) f) (ha : DE X cl W a (evE rn i)) (hb : DE X cl W b (evE rn j)) (hm : behindInMarks op b = false) :
    DT X cl W (.Compare a [op] [b] pos) (evE rn (.op f (.cons i (.cons j .nil)))) := PT.imp (pt_cmpR ho ha hb hm) fun σ H Q h => tOp_of hv (test_of h)

theorem test_and (i j : IE) (e : Env) (S : Store) : testD (evE rn (.and_ i j) e S) = (testD (evE rn i e S)).bind fun c S1 => if c then testD (evE rn j e S1) else .ok false S1 := by
  simp only [evE, testD]
  cases evE rn i e S with
  | ok d S1 =>
    simp only [R.bind_ok]
    cases trueD d with
    | none => rfl
    | some b => cases b <;> rfl
  | ex c fs S1 => rfl
  | no => rfl
theorem test_or (i j : IE) (e : Env) (S : Store) : testD (evE rn (.or_ i j) e S) = (testD (evE rn i e S)).bind fun c S1 => if c then .ok true S1 else testD (evE rn j e S1) := by
  simp only [evE, testD]
  cases evE rn i e S with
  | ok d S1 =>
    simp only [R.bind_ok]
    cases trueD d with
    | none => rfl
    | some b => cases b <;> rfl
  | ex c fs S1 => rfl
  | no => rfl
theorem dw_and1 {a : Expr} {f : Env → Store → R D} (h : DT X cl W a f) : DW X cl W (.BoolOp .And [a] pos) f := pw_and1 h
theorem dw_or1 {a : Expr} {f : Env → Store → R D} (h : DT X cl W a f) : DW X cl W (.BoolOp .Or [a] pos) f := pw_or1 h
theorem DW.t {a : Expr} {f : Env → Store → R D} (h : DW X cl W a f) : DT X cl W a f := PW.pt h
theorem dw_and {a b : Expr} {rest : List Expr} {i j : IE} (ha : DT X cl W a (evE rn i)) (hb : DW X cl W (.BoolOp .And (b :: rest) pos) (evE rn j)) : DW X cl W (.BoolOp .And (a :: b :: rest) pos) (evE rn (.and_ i j)) :=
  PW.imp (pw_and ha hb) fun σ H Q h => by
    obtain ⟨m, B, e, S, hS, hE, h⟩ := h
    dsimp only at h
    rw [test_and] at h
    refine tG_bind hS hE h fun c S1 m1 H1 b x1 hS1 hE1 r1 h1 eq1 => ?_
    cases r1
    cases c with
    | true => exact ⟨m1, B, e, S1, hS1, hE1, h1⟩
    | false => exact EndG.here h1 hS1 rfl
theorem dw_or {a b : Expr} {rest : List Expr} {i j : IE} (ha : DT X cl W a (evE rn i)) (hb : DW X cl W (.BoolOp .Or (b :: rest) pos) (evE rn j)) : DW X cl W (.BoolOp .Or (a :: b :: rest) pos) (evE rn (.or_ i j)) :=
  PW.imp (pw_or ha hb) fun σ H Q h => by
    obtain ⟨m, B, e, S, hS, hE, h⟩ := h
    dsimp only at h
    rw [test_or] at h
    refine tG_bind hS hE h fun c S1 m1 H1 b x1 hS1 hE1 r1 h1 eq1 => ?_
    cases r1
    cases c with
    | true => exact EndG.here h1 hS1 rfl
    | false => exact ⟨m1, B, e, S1, hS1, hE1, h1⟩
theorem test_not (i : IE) (e : Env) (S : Store) : testD (evE rn (.not_ i) e S) = (testD (evE rn i e S)).bind fun c S1 => .ok (!c) S1 := by
  simp only [evE, testD]
  cases evE rn i e S with
  | ok d S1 =>
    simp only [R.bind_ok]
    cases trueD d <;> rfl
  | ex c fs S1 => rfl
  | no => rfl
theorem dt_not {a : Expr} {i : IE} (ha : DT X cl W a (evE rn i)) : DT X cl W (.UnaryOp .Not a pos) (evE rn (.not_ i)) :=
  PT.imp (pt_not ha) fun σ H Q h => by
    obtain ⟨m, B, e, S, hS, hE, h⟩ := h
    dsimp only at h
    rw [test_not] at h
    refine tG_bind hS hE h fun c S1 m1 H1 b x1 hS1 hE1 r1 h1 eq1 => ?_
    cases r1
    exact EndG.here h1 hS1 rfl
/-! ### .. as values -/
theorem isbl {K : PySem.W.Frag} {m m' : Mp} {B : Addr → Prop} {σ : L2.St} {H : Hp} {d : D} {v : V} {α β : Type} {rep : Rp α β} {Q : β → Hp → Prop} {k : Bool → R α} (r : rD K H m B d v)
    (h : EndG K cl W rep m' B σ H (match trueD d with | some b => k b | none => .no) Q) : ∃ b, v = .bl b ∧ EndG K cl W rep m' B σ H (k b) Q := by
  cases d with
  | p y =>
    cases y with
    | bl b => exact ⟨b, r, h⟩
    | _ => exact h.elim
  | ref l => exact h.elim
  | exc c fs => exact h.elim
theorem de_one {op : BoolOp} {a : Expr} {f : Env → Store → R D} (h : DE X cl W a f) : DE X cl W (.BoolOp op [a] pos) f := pe_one h
theorem ev_and (i j : IE) (e : Env) (S : Store) : evE rn (.and_ i j) e S = (evE rn i e S).bind fun d S1 => match trueD d with | some b => (if b then evE rn j e S1 else .ok (.p (.bl false)) S1) | none => .no := by
  simp only [evE]
  cases evE rn i e S with
  | ok d S1 =>
    simp only [R.bind_ok]
    cases trueD d with
    | none => rfl
    | some b => cases b <;> rfl
  | ex c fs S1 => rfl
  | no => rfl
theorem ev_or (i j : IE) (e : Env) (S : Store) : evE rn (.or_ i j) e S = (evE rn i e S).bind fun d S1 => match trueD d with | some b => (if b then .ok (.p (.bl true)) S1 else evE rn j e S1) | none => .no := by
  simp only [evE]
  cases evE rn i e S with
  | ok d S1 =>
    simp only [R.bind_ok]
    cases trueD d with
    | none => rfl
    | some b => cases b <;> rfl
  | ex c fs S1 => rfl
  | no => rfl
theorem ev_ite (t i j : IE) (e : Env) (S : Store) : evE rn (.ite t i j) e S = (testD (evE rn t e S)).bind fun c S1 => if c then evE rn i e S1 else evE rn j e S1 := by
  simp only [evE, testD]
  cases evE rn t e S with
  | ok d S1 =>
    simp only [R.bind_ok]
    cases trueD d with
    | none => rfl
    | some b => cases b <;> rfl
  | ex c fs S1 => rfl
  | no => rfl
theorem de_and {a b : Expr} {rest : List Expr} {i j : IE} (ha : DE X cl W a (evE rn i)) (hb : DE X cl W (.BoolOp .And (b :: rest) pos) (evE rn j)) : DE X cl W (.BoolOp .And (a :: b :: rest) pos) (evE rn (.and_ i j)) :=
  PE.imp (pe_and ha hb) fun σ H Q h => by
    obtain ⟨m, B, e, S, hS, hE, h⟩ := h
    rw [ev_and] at h
    refine tG_bind hS hE h fun d S1 m1 H1 v x1 hS1 hE1 r1 h1 eq1 => ?_
    obtain ⟨c, rfl, h1⟩ := isbl r1 h1
    refine ⟨c, rfl, ?_⟩
    cases c with
    | true => exact ⟨m1, B, e, S1, hS1, hE1, h1⟩
    | false => exact EndG.here h1 hS1 rfl
theorem de_or {a b : Expr} {rest : List Expr} {i j : IE} (ha : DE X cl W a (evE rn i)) (hb : DE X cl W (.BoolOp .Or (b :: rest) pos) (evE rn j)) : DE X cl W (.BoolOp .Or (a :: b :: rest) pos) (evE rn (.or_ i j)) :=
  PE.imp (pe_or ha hb) fun σ H Q h => by
    obtain ⟨m, B, e, S, hS, hE, h⟩ := h
    rw [ev_or] at h
    refine tG_bind hS hE h fun d S1 m1 H1 v x1 hS1 hE1 r1 h1 eq1 => ?_
    obtain ⟨c, rfl, h1⟩ := isbl r1 h1
    refine ⟨c, rfl, ?_⟩
    cases c with
    | true => exact EndG.here h1 hS1 rfl
    | false => exact ⟨m1, B, e, S1, hS1, hE1, h1⟩
theorem de_not {a : Expr} {i : IE} (ha : DE X cl W a (evE rn i)) : DE X cl W (.UnaryOp .Not a pos) (evE rn (.not_ i)) :=
  PE.imp (pe_not ha) fun σ H Q h => by
    obtain ⟨m, B, e, S, hS, hE, h⟩ := h
    simp only [evE] at h
    refine tG_bind hS hE h fun d S1 m1 H1 v x1 hS1 hE1 r1 h1 eq1 => ?_
    obtain ⟨c, rfl, h1⟩ := isbl (rep := rD X.K) (k := fun b => R.ok (D.p (P.bl (!b))) S1) r1 h1
    exact ⟨c, rfl, EndG.here h1 hS1 rfl⟩
theorem de_ite {c a b : Expr} {t i j : IE} (hc : DT X cl W c (evE rn t)) (ha : DE X cl W a (evE rn i)) (hb : DE X cl W b (evE rn j)) : DE X cl W (.IfExp c a b pos) (evE rn (.ite t i j)) :=
  PE.imp (pe_ifExp hc ha hb) fun σ H Q h => by
    obtain ⟨m, B, e, S, hS, hE, h⟩ := h
    rw [ev_ite] at h
    refine tG_bind hS hE h fun d S1 m1 H1 v x1 hS1 hE1 r1 h1 eq1 => ?_
    cases r1
    cases d with
    | true => exact ⟨m1, B, e, S1, hS1, hE1, h1⟩
    | false => exact ⟨m1, B, e, S1, hS1, hE1, h1⟩

/-! ### data alone -/
theorem RepDs.pure {K : PySem.W.Frag} {H : Hp} {m : Mp} {B : Addr → Prop} : ∀ {ds : List D} {vs : List V} {xs : List P}, RepDs K H m B ds vs → pures ds = some xs → Reps K H (Pr m B) xs vs
  | [], vs, xs, h, e => by
    cases e
    exact Reps.nil_iff.mpr h
  | .p x :: r, vs, xs, h, e => by
    obtain ⟨v, s, rfl, a, b⟩ := h
    unfold pures at e
    cases q : pures r with
    | none => rw [q] at e; cases e
    | some ys =>
      rw [q] at e
      cases e
      exact Reps.cons_iff.mpr ⟨v, s, rfl, a, RepDs.pure b q⟩
  | .ref l :: r, vs, xs, h, e => by cases e
  | .exc c fs :: r, vs, xs, h, e => by cases e
def pkK (f : List P → Option P) (ds : List D) (S : Store) : R D := match pures ds with
    | some xs => (match f xs with
      | some y => .ok (.p y) S
      | none => .no)
    | none => .no
theorem ev_pk (f : List P → Option P) (is : IEs) (e : Env) (S : Store) : evE rn (.pk f is) e S = (evEs rn is e S).bind fun ds S1 => pkK f ds S1 := by
  simp only [evE]
  rfl
theorem pk_end {K : PySem.W.Frag} {m : Mp} {B : Addr → Prop} {σ : L2.St} {H : Hp} {S : Store} {ds : List D} {vs : List V} {f : List P → Option P} {α : Type} {rep : Rp D α} {Q : α → Hp → Prop} (rd : RepDs K H m B ds vs) (h : EndG K cl W rep m B σ H (pkK f ds S) Q) :
    ∃ xs y, pures ds = some xs ∧ f xs = some y ∧ Reps K H (Pr m B) xs vs ∧ EndG K cl W rep m B σ H (.ok (.p y) S) Q := by
  unfold pkK at h
  cases q : pures ds with
  | none => rw [q] at h; exact h.elim
  | some xs =>
    rw [q] at h
    dsimp only at h
    cases q2 : f xs with
    | none => rw [q2] at h; exact h.elim
    | some y =>
      rw [q2] at h
      exact ⟨xs, y, rfl, q2, rd.pure q, h⟩
theorem Same.new {H : Hp} {p : Addr} {o : HO} (h : H p = none) : Same H (upd H p o) := fun b u e => by
  rw [upd_ne (ne_of_none e h)]
  exact e
def IEs.len : IEs → Nat
  | .nil => 0
  | .cons _ r => r.len + 1
theorem evEs_len : ∀ {is : IEs} {e : Env} {S : Store} {ds : List D} {S1 : Store}, evEs rn is e S = .ok ds S1 → ds.length = is.len
  | .nil, e, S, ds, S1, h => by
    simp only [evEs] at h
    cases h
    rfl
  | .cons i r, e, S, ds, S1, h => by
    simp only [evEs] at h
    cases q : evE rn i e S with
    | ok d S2 =>
      rw [q, R.bind_ok] at h
      cases q2 : evEs rn r e S2 with
      | ok ds' S3 =>
        rw [q2, R.bind_ok] at h
        cases h
        simp [IEs.len, evEs_len q2]
      | ex c fs S3 => rw [q2] at h; cases h
      | no => rw [q2] at h; cases h
    | ex c fs S2 => rw [q] at h; cases h
    | no => rw [q] at h; cases h
theorem de_tup {es : List Expr} {is : IEs} {x1 : Nat} (h : DA X cl W es (evEs rn is)) (hl : is.len ≤ 1000) : DE X cl W (.Tuple es x1 pos) (evE rn (.pk tupP is)) :=
  PE.imp (pe_tup h) fun σ H Q h => by
    obtain ⟨m, B, e, S, hS, hE, h⟩ := h
    rw [ev_pk] at h
    refine tG_bind hS hE h fun ds S1 m1 H1 vs x1 hS1 hE1 r1 h1 eq1 => ⟨Nat.le_trans (by rw [← RepDs.len r1, evEs_len eq1]; exact hl) (Nat.le_of_lt (small1000 (Nat.le_refl _))), fun p np => ?_⟩
    obtain ⟨xs, y, e1, e2, rs, h2⟩ := pk_end r1 h1
    cases e2
    exact h2 m1 _ (.ref p) (.same (Same.new np)) (hS1.same (Same.new np)) ⟨p, vs, rfl, .of upd_same, (Ext.same (Same.new np)).reps rs⟩

/-! ### new objects -/
/-- what an expression tells that is a new list or dict -/
def tF (K : PySem.W.Frag) (cl : Cls_) (W : WX) (f : Env → Store → R D) : TE := fun σ H Q => ∃ m B e S, RelS K m B S H ∧ RelE K m B e σ H ∧
  match f e S with
  | .ok (.p (.lst xs)) S' => ∀ m' H' p vs, Ext m H m' H' → H p = none → RelS K m' (fun a => B a ∨ a = p) S' H' → H' p = some (.lst vs) → Reps K H' (Pr m' fun a => B a ∨ a = p) xs vs → Q (.ref p) H'
  | .ok (.p (.dic ks xs)) S' => ∀ m' H' p vs u, Ext m H m' H' → H p = none → RelS K m' (fun a => B a ∨ a = p) S' H' → H' p = some u → DicO ks vs u → Reps K H' (Pr m' fun a => B a ∨ a = p) xs vs → Q (.ref p) H'
  | r => EndG K cl W (rD K) m B σ H r Q
def FE (X : Cx) (cl : Cls_) (W : WX) (e : Expr) (f : Env → Store → R D) : Prop := PE X e (tF X.K cl W f)
theorem Rep.less {K : PySem.W.Frag} {H : Hp} {pr pr' : Addr → Prop} (h : ∀ a, pr' a → pr a) {x : P} {v : V} (r : Rep K H pr x v) : Rep K H pr' x v := r.mono (fun a u n r => ⟨r, fun z => n (h a z)⟩) fun _ _ e => e
theorem Reps.less {K : PySem.W.Frag} {H : Hp} {pr pr' : Addr → Prop} (h : ∀ a, pr' a → pr a) {xs : List P} {vs : List V} (r : Reps K H pr xs vs) : Reps K H pr' xs vs := r.mono (fun a u n r => ⟨r, fun z => n (h a z)⟩) fun _ _ e => e
theorem RepD.less {K : PySem.W.Frag} {H : Hp} {m : Mp} {B B' : Addr → Prop} (h : ∀ a, Pr m B' a → Pr m B a) : ∀ {d : D} {v : V}, RepD K H m B d v → RepD K H m B' d v
  | .p x, v, r => Rep.less h r
  | .ref l, v, r => r
  | .exc _ _, v, r => r
theorem RepDs.less {K : PySem.W.Frag} {H : Hp} {m : Mp} {B B' : Addr → Prop} (h : ∀ a, Pr m B' a → Pr m B a) : ∀ {ds : List D} {vs : List V}, RepDs K H m B ds vs → RepDs K H m B' ds vs
  | [], v, r => r
  | d :: ds, v, r => by
    obtain ⟨v, s, rfl, a, b⟩ := r
    exact ⟨v, s, rfl, RepD.less h a, RepDs.less h b⟩
theorem RelS.less {K : PySem.W.Frag} {H : Hp} {m : Mp} {B B' : Addr → Prop} {S : Store} (h : ∀ a, B' a → B a) (r : RelS K m B S H) : RelS K m B' S H where
  len := r.len
  inj := r.inj
  ob := fun i a e => by
    have hp : ∀ a, Pr m B' a → Pr m B a := fun a z => z.elim .inl fun z => .inr (h a z)
    obtain ⟨o, q, q2⟩ := r.ob i a e
    refine ⟨o, q, ?_⟩
    cases o with
    | lst xs =>
      obtain ⟨vs, e, h⟩ := q2
      exact ⟨vs, e, h.less hp⟩
    | dic kvs =>
      obtain ⟨vs, u, e, d, h⟩ := q2
      exact ⟨vs, u, e, d, h.less hp⟩
    | dir kvs =>
      obtain ⟨vs, u, e, d, h⟩ := q2
      exact ⟨vs, u, e, d, h.less hp⟩
    | dead => exact q2.elim
  dead := r.dead
  bd := fun a z => r.bd a (h a z)
theorem FE.de {a : Expr} {f : Env → Store → R D} (h : FE X cl W a f) : DE X cl W a f := PE.imp h fun σ H Q h => by
  obtain ⟨m, B, e, S, hS, hE, h⟩ := h
  refine ⟨m, B, e, S, hS, hE, ?_⟩
  cases q : f e S with
  | ok d S1 =>
    rw [q] at h
    cases d with
    | p x =>
      cases x with
      | lst xs =>
        intro m' H' p vs x np rs ep rp
        refine h m' H' (.ref p) x (rs.less fun a z => .inl z) ?_
        refine ⟨p, vs, rfl, fun z => ?_, ep, rp.less fun a z => z.elim .inl fun z => .inr (.inl z)⟩
        rcases z with z | z
        · exact (rs.bd p (.inr rfl)).2 z
        · exact (hS.bd p z).1 np
      | dic ks xs =>
        intro m' H' p vs u x np rs ep d rp
        refine h m' H' (.ref p) x (rs.less fun a z => .inl z) ?_
        refine ⟨p, vs, u, rfl, fun z => ?_, .inl ep, d, rp.less fun a z => z.elim .inl fun z => .inr (.inl z)⟩
        rcases z with z | z
        · exact (rs.bd p (.inr rfl)).2 z
        · exact (hS.bd p z).1 np
      | _ => exact h
    | ref l => exact h
    | exc c fs => exact h
  | ex c fs S1 =>
    rw [q] at h
    exact h
  | no =>
    rw [q] at h
    exact h
theorem getE_snoc {α : Type} {l : List α} {x y : α} {i : Nat} (h : (l ++ [x])[i]? = some y) : l[i]? = some y ∨ (i = l.length ∧ y = x) := by
  by_cases hi : i < l.length
  · rw [List.getElem?_append_left hi] at h
    exact .inl h
  · rw [List.getElem?_append_right (Nat.le_of_not_lt hi)] at h
    cases q : i - l.length with
    | zero =>
      rw [q] at h
      simp at h
      exact .inr ⟨by omega, h.symm⟩
    | succ n =>
      rw [q] at h
      simp at h
theorem new_rel {K : PySem.W.Frag} {H : Hp} {m : Mp} {B : Addr → Prop} {S : Store} {p : Addr} {o : O} (hB : ∀ a, B a → a ≠ p) (rs : RelS K m (fun a => B a ∨ a = p) S H) (h : RepO K H (m ++ [some p]) B p o) : RelS K (m ++ [some p]) B (S ++ [o]) H := by
  have np : some p ∉ m := (rs.bd p (.inr rfl)).2
  have hp : ∀ a, Pr (m ++ [some p]) B a → Pr m (fun a => B a ∨ a = p) a := fun a z => by
    rcases z with z | z
    · rcases List.mem_append.mp z with z | z
      · exact .inl z
      · exact .inr (.inr (by simpa using z))
    · exact .inr (.inl z)
  have up : ∀ {d : D} {v : V}, RepD K H m (fun a => B a ∨ a = p) d v → RepD K H (m ++ [some p]) B d v := fun {d v} r => by
    cases d with
    | p x => exact Rep.less hp r
    | ref l =>
      dsimp only [RepD] at r ⊢
      cases q : m[l]? with
      | none => rw [q] at r; exact r.elim
      | some y =>
        rw [q] at r
        rw [List.getElem?_append_left (List.getElem?_eq_some_iff.mp q).1, q]
        exact r
    | exc c fs => exact r
  have ups : ∀ {ds : List D} {vs : List V}, RepDs K H m (fun a => B a ∨ a = p) ds vs → RepDs K H (m ++ [some p]) B ds vs := by
    intro ds
    induction ds with
    | nil => exact fun r => r
    | cons d ds ih =>
      intro vs r
      obtain ⟨v, s, rfl, a, b⟩ := r
      exact ⟨v, s, rfl, up a, ih b⟩
  refine ⟨by simp [rs.len], fun i j a e1 e2 => ?_, fun i a e => ?_, fun i e => ?_, fun a z => ⟨(rs.bd a (.inl z)).1, fun q => ?_⟩⟩
  · rcases getE_snoc e1 with g1 | ⟨g1, f1⟩
    · rcases getE_snoc e2 with g2 | ⟨g2, f2⟩
      · exact rs.inj i j a g1 g2
      · cases f2
        exact absurd (List.mem_of_getElem? g1) np
    · cases f1
      rcases getE_snoc e2 with g2 | ⟨g2, f2⟩
      · exact absurd (List.mem_of_getElem? g2) np
      · rw [g1, g2]
  · rcases getE_snoc e with e | ⟨g, f⟩
    · obtain ⟨o', q, q2⟩ := rs.ob i a e
      refine ⟨o', by rw [List.getElem?_append_left (List.getElem?_eq_some_iff.mp q).1, q], ?_⟩
      cases o' with
      | lst xs =>
        obtain ⟨vs, e, h⟩ := q2
        exact ⟨vs, e, h.less hp⟩
      | dic kvs =>
        obtain ⟨vs, u, e, d, h⟩ := q2
        exact ⟨vs, u, e, d, h.less hp⟩
      | dir kvs =>
        obtain ⟨vs, u, e, d, h⟩ := q2
        exact ⟨vs, u, e, d, ups h⟩
      | dead => exact q2.elim
    · cases f
      exact ⟨o, by rw [g, rs.len]; simp, h⟩
  · rcases getE_snoc e with e | ⟨e, f⟩
    · have q := rs.dead i e
      rw [List.getElem?_append_left (List.getElem?_eq_some_iff.mp q).1, q]
    · cases f
  · rcases List.mem_append.mp q with q | q
    · exact (rs.bd a (.inl z)).2 q
    · exact hB a z (by simpa using q)
theorem new_ext {m m' : Mp} {H H' : Hp} {p : Addr} (x : Ext m H m' H') (np : H p = none) : Ext m H (m' ++ [some p]) H' where
  len := by rw [List.length_append]; exact Nat.le_trans x.len (Nat.le_add_right _ _)
  keep := fun i y e => by
    rcases x.keep i y e with q | q
    · exact .inl (by rw [List.getElem?_append_left (List.getElem?_eq_some_iff.mp q).1, q])
    · exact .inr (by rw [List.getElem?_append_left (List.getElem?_eq_some_iff.mp q).1, q])
  obj := fun a o n e => ⟨(x.obj a o n e).1, fun z => by
    rcases List.mem_append.mp z with z | z
    · exact (x.obj a o n e).2 z
    · have : a = p := by simpa using z
      rw [this, np] at e
      cases e⟩
  tup := x.tup
  dom := x.dom
/-- a new object that the store keeps -/
theorem FE.new {a : Expr} {i : IE} (h : FE X cl W a (evE rn i)) : DE X cl W a (evE rn (.new i)) := PE.imp h fun σ H Q h => by
  obtain ⟨m, B, e, S, hS, hE, h⟩ := h
  simp only [evE] at h
  refine ⟨m, B, e, S, hS, hE, ?_⟩
  cases q : evE rn i e S with
  | ok d S1 =>
    rw [q, R.bind_ok] at h
    have hB : ∀ {p}, H p = none → ∀ a, B a → a ≠ p := fun {p} np a z e => (hS.bd a z).1 (by rw [e]; exact np)
    cases d with
    | p x =>
      cases x with
      | lst xs =>
        intro m' H' p vs x np rs ep rp
        refine h (m' ++ [some p]) H' (.ref p) (new_ext x np) (new_rel (hB np) rs ⟨vs, ep, ?_⟩) ?_
        · refine rp.less fun a z => ?_
          rcases z with z | z
          · rcases List.mem_append.mp z with z | z
            · exact .inl z
            · exact .inr (.inr (by simpa using z))
          · exact .inr (.inl z)
        · show RepD _ _ _ _ (.ref S1.length) _
          dsimp only [RepD]
          rw [← rs.len]
          simp
      | dic ks xs =>
        intro m' H' p vs u x np rs ep d rp
        have l1 : ks.length = xs.length := by rw [rp.len]; exact d.1
        refine h (m' ++ [some p]) H' (.ref p) (new_ext x np) (new_rel (hB np) rs ⟨vs, u, ep, ?_, ?_⟩) ?_
        · rw [List.map_fst_zip (Nat.le_of_eq l1)]
          exact d
        · rw [List.map_snd_zip (Nat.le_of_eq l1.symm)]
          refine rp.less fun a z => ?_
          rcases z with z | z
          · rcases List.mem_append.mp z with z | z
            · exact .inl z
            · exact .inr (.inr (by simpa using z))
          · exact .inr (.inl z)
        · show RepD _ _ _ _ (.ref S1.length) _
          dsimp only [RepD]
          rw [← rs.len]
          simp
      | _ => exact h.elim
    | ref l => exact h.elim
    | exc c fs => exact h.elim
  | ex c fs S1 =>
    rw [q] at h
    exact h
  | no =>
    rw [q] at h
    exact h
end
end DL

set_option maxRecDepth 100000
set_option maxHeartbeats 1000000
/-! DJ3: new lists by values, slices, methods, calls of defs, changes -/
namespace DL
open PySem PySem.Spec PyProof.Rows L2

/-! ### the ends of what is new -/
section
variable (K : PySem.W.Frag) (cl : Cls_) (W : WX)
def EndF (m : Mp) (B : Addr → Prop) (σ : L2.St) (H : Hp) (r : R D) (Q : VK) : Prop :=
  match r with
  | .ok (.p (.lst xs)) S' => ∀ m' H' p vs, Ext m H m' H' → H p = none → RelS K m' (fun a => B a ∨ a = p) S' H' → H' p = some (.lst vs) → Reps K H' (Pr m' fun a => B a ∨ a = p) xs vs → Q (.ref p) H'
  | .ok (.p (.dic ks xs)) S' => ∀ m' H' p vs u, Ext m H m' H' → H p = none → RelS K m' (fun a => B a ∨ a = p) S' H' → H' p = some u → DicO ks vs u → Reps K H' (Pr m' fun a => B a ∨ a = p) xs vs → Q (.ref p) H'
  | r => EndG K cl W (rD K) m B σ H r Q
end
section
variable {K : PySem.W.Frag} {cl : Cls_} {W : WX} {m m1 : Mp} {B : Addr → Prop} {σ : L2.St} {H H1 : Hp} {S : Store} {e : Env}
theorem tF_of {f : Env → Store → R D} {Q : VK} (hS : RelS K m B S H) (hE : RelE K m B e σ H) (h : EndF K cl W m B σ H (f e S) Q) : tF K cl W f σ H Q := ⟨m, B, e, S, hS, hE, h⟩
theorem of_tF {f : Env → Store → R D} {Q : VK} (h : tF K cl W f σ H Q) : ∃ m B e S, RelS K m B S H ∧ RelE K m B e σ H ∧ EndF K cl W m B σ H (f e S) Q := h
theorem none_back (x : Ext m H m1 H1) {p : Addr} (h : H1 p = none) : H p = none := by
  cases q : H p with
  | none => rfl
  | some o => exact absurd h (x.dom p (by rw [q]; exact fun z => nomatch z))
theorem EndF.ext {r : R D} {Q : VK} (x : Ext m H m1 H1) (h : EndF K cl W m B σ H r Q) : EndF K cl W m1 B σ H1 r Q := by
  cases r with
  | ok d S =>
    cases d with
    | p y =>
      cases y with
      | lst xs => exact fun m' H' p vs x' np rs ep rp => h m' H' p vs (x.trans x') (none_back x np) rs ep rp
      | dic ks xs => exact fun m' H' p vs u x' np rs ep d rp => h m' H' p vs u (x.trans x') (none_back x np) rs ep d rp
      | _ => exact fun m' H' b x' rs rp => h m' H' b (x.trans x') rs rp
    | ref l => exact fun m' H' b x' rs rp => h m' H' b (x.trans x') rs rp
    | exc c fs => exact fun m' H' b x' rs rp => h m' H' b (x.trans x') rs rp
  | ex c fs S => exact fun m' H' cls dd x' rs xr => h m' H' cls dd (x.trans x') rs xr
  | no => exact h
theorem tG_bindF {α β : Type} {rep : Rp α β} {f : Env → Store → R α} {k : α → Store → R D} {Q : VK} {Q1 : β → Hp → Prop} (hS : RelS K m B S H) (hE : RelE K m B e σ H) (h : EndF K cl W m B σ H ((f e S).bind k) Q)
    (next : ∀ a S1 m1 H1 b, Ext m H m1 H1 → RelS K m1 B S1 H1 → RelE K m1 B e σ H1 → rep H1 m1 B a b → EndF K cl W m1 B σ H1 (k a S1) Q → f e S = .ok a S1 → Q1 b H1) : tG K cl W rep f σ H Q1 := by
  refine ⟨m, B, e, S, hS, hE, ?_⟩
  cases q : f e S with
  | ok a S1 =>
    rw [q] at h
    exact fun m' H' b x rs rp => next a S1 m' H' b x rs (x.relE hE) rp (EndF.ext x h) q
  | ex c fs S1 =>
    rw [q] at h
    exact h
  | no =>
    rw [q] at h
    exact h.elim
theorem RelS.ban {p : Addr} (r : RelS K m B S H) (np : H p = none) (s : Same H H1) (h1 : H1 p ≠ none) : RelS K m (fun a => B a ∨ a = p) S H1 where
  len := r.len
  inj := r.inj
  ob := fun i a e => by
    obtain ⟨o, q, q2⟩ := r.ob i a e
    have hm : ∀ {y : P} {v : V}, Rep K H (Pr m B) y v → Rep K H1 (Pr m fun a => B a ∨ a = p) y v := fun {y v} h => h.mono (fun a u n rd => ⟨s _ _ rd, fun z => by
      rcases z with z | z | z
      · exact n (.inl z)
      · exact n (.inr z)
      · rw [z, np] at rd
        cases rd⟩) (Ext.same (m := []) s).tup
    have hms : ∀ {y : List P} {v : List V}, Reps K H (Pr m B) y v → Reps K H1 (Pr m fun a => B a ∨ a = p) y v := fun {y v} h => h.mono (fun a u n rd => ⟨s _ _ rd, fun z => by
      rcases z with z | z | z
      · exact n (.inl z)
      · exact n (.inr z)
      · rw [z, np] at rd
        cases rd⟩) (Ext.same (m := []) s).tup
    have hds : ∀ {ds : List D} {vs : List V}, RepDs K H m B ds vs → RepDs K H1 m (fun a => B a ∨ a = p) ds vs := by
      intro ds
      induction ds with
      | nil => exact fun r => r
      | cons d ds ih =>
        intro vs r
        obtain ⟨v, s, rfl, a, b⟩ := r
        refine ⟨v, s, rfl, ?_, ih b⟩
        cases d with
        | p x => exact hm a
        | ref l => exact a
        | exc c fs => exact a
    refine ⟨o, q, ?_⟩
    cases o with
    | lst xs =>
      obtain ⟨vs, e, h⟩ := q2
      exact ⟨vs, s _ _ e, hms h⟩
    | dic kvs =>
      obtain ⟨vs, u, e, d, h⟩ := q2
      exact ⟨vs, u, s _ _ e, d, hms h⟩
    | dir kvs =>
      obtain ⟨vs, u, e, d, h⟩ := q2
      exact ⟨vs, u, s _ _ e, d, hds h⟩
    | dead => exact q2.elim
  dead := r.dead
  bd := fun a z => by
    rcases z with z | z
    · exact ⟨(Ext.same (m := []) s).dom a (r.bd a z).1, (r.bd a z).2⟩
    · rw [z]
      exact ⟨h1, fun q => r.live q np⟩
end
/-- what is new: a list, a dict -/
def FrE (K : PySem.W.Frag) (H : Hp) (pr : Addr → Prop) (y : P) (Q : VK) : Prop :=
  match y with
  | .lst xs => ∀ p ws H', H p = none → Same H H' → H' p = some (.lst ws) → Reps K H' (fun a => pr a ∨ a = p) xs ws → Q (.ref p) H'
  | .dic ks xs => ∀ p ws u H', H p = none → Same H H' → H' p = some u → DicO ks ws u → Reps K H' (fun a => pr a ∨ a = p) xs ws → Q (.ref p) H'
  | _ => False
def OpF (K : PySem.W.Frag) (r : List V → Hp → VK → Prop) (f : List P → Option P) : Prop :=
  ∀ (H : Hp) (pr : Addr → Prop) (xs : List P) (vs : List V) (y : P) (Q : VK), (∀ a, pr a → H a ≠ none) → RepTs K H pr xs vs → f xs = some y → FrE K H pr y Q → r vs H Q
theorem Reps.new {K : PySem.W.Frag} {H : Hp} {pr : Addr → Prop} {p : Addr} {o : HO} {xs : List P} {ws : List V} (h : Reps K H pr xs ws) (np : H p = none) : Reps K (upd H p o) (fun a => pr a ∨ a = p) xs ws :=
  h.mono (fun a u n rd => ⟨Same.new np _ _ rd, fun z => z.elim n fun z => by
    rw [z, np] at rd
    cases rd⟩) (Ext.same (m := []) (Same.new np)).tup
theorem FrE.lst {K : PySem.W.Frag} {H : Hp} {pr : Addr → Prop} {xs : List P} {ws : List V} {Q : VK} (h : FrE K H pr (.lst xs) Q) (r : Reps K H pr xs ws) {p : Addr} (np : H p = none) : Q (.ref p) (upd H p (.lst ws)) :=
  h p ws _ np (Same.new np) upd_same (r.new np)
theorem FrE.dic {K : PySem.W.Frag} {H : Hp} {pr : Addr → Prop} {ks xs : List P} {ws : List V} {u : HO} {Q : VK} (h : FrE K H pr (.dic ks xs) Q) (d : DicO ks ws u) (r : Reps K H pr xs ws) {p : Addr} (np : H p = none) : Q (.ref p) (upd H p u) :=
  h p ws u _ np (Same.new np) upd_same d (r.new np)
theorem FrE.of {K : PySem.W.Frag} {H : Hp} {pr : Addr → Prop} {y : P} {Q : VK} (hp : ∀ a, pr a → H a ≠ none) (hy : (∃ xs, y = .lst xs) ∨ (∃ ks xs, y = .dic ks xs)) (h : ∀ H' v, Same H H' → Rep K H' pr y v → Q v H') : FrE K H pr y Q := by
  rcases hy with ⟨xs, rfl⟩ | ⟨ks, xs, rfl⟩
  · intro p ws H' np s ep r
    exact h H' (.ref p) s ⟨p, ws, rfl, fun z => hp p z np, ep, r.less fun a z => .inl z⟩
  · intro p ws u H' np s ep d r
    exact h H' (.ref p) s ⟨p, ws, u, rfl, fun z => hp p z np, .inl ep, d, r.less fun a z => .inl z⟩
theorem OpF.v {K : PySem.W.Frag} {r : List V → Hp → VK → Prop} {f : List P → Option P} (h : OpF K r f) (hy : ∀ xs y, f xs = some y → (∃ xs, y = .lst xs) ∨ (∃ ks xs, y = .dic ks xs)) : OpV K r f := fun H pr xs vs y Q hp hr hf hq => h H pr xs vs y Q hp hr hf (.of hp (hy xs y hf) hq)

section
variable {X : Cx} {cl : Cls_} {W : WX} {rn : Rn} {pos : Pos}
theorem opF_fin {K : PySem.W.Frag} {r : List V → Hp → VK → Prop} {f : List P → Option P} {m : Mp} {B : Addr → Prop} {σ : L2.St} {H : Hp} {S : Store} {ds : List D} {vs : List V} {Q : VK} (ho : OpF K r f) (hy : ∀ xs y, f xs = some y → (∃ xs, y = .lst xs) ∨ (∃ ks xs, y = .dic ks xs)) (rs : RelS K m B S H) (rd : RepDs K H m B ds vs)
    (h : EndF K cl W m B σ H (opK f ds S) Q) : r vs H Q := by
  unfold opK at h
  cases e1 : vals S ds with
  | none => rw [e1] at h; exact h.elim
  | some xs =>
    rw [e1] at h
    dsimp only at h
    cases e2 : f xs with
    | none => rw [e2] at h; exact h.elim
    | some y =>
      rw [e2] at h
      have some_ne : ∀ {H' : Hp} {p : Addr} {u : HO}, H' p = some u → H' p ≠ none := fun e => by rw [e]; exact fun z => nomatch z
      refine ho H (Pr m B) xs vs y Q (fun a p => rs.pr p) (rd.top rs e1) e2 ?_
      rcases hy xs y e2 with ⟨zs, rfl⟩ | ⟨ks, zs, rfl⟩
      · intro p ws H' np s ep rp
        refine h m H' p ws (.same s) np (rs.ban np s (some_ne ep)) ep (rp.less fun a z => ?_)
        rcases z with z | z | z
        · exact .inl (.inl z)
        · exact .inl (.inr z)
        · exact .inr z
      · intro p ws u H' np s ep d rp
        refine h m H' p ws u (.same s) np (rs.ban np s (some_ne ep)) ep d (rp.less fun a z => ?_)
        rcases z with z | z | z
        · exact .inl (.inl z)
        · exact .inl (.inr z)
        · exact .inr z
theorem tOp_ofF {r : R2} {f : List P → Option P} {i j : IE} (ho : OpF X.K (rOf2 r) f) (hy : ∀ xs y, f xs = some y → (∃ xs, y = .lst xs) ∨ (∃ ks xs, y = .dic ks xs)) {σ : L2.St} {H : Hp} {Q : VK} (h : tF X.K cl W (evE rn (.op f (.cons i (.cons j .nil)))) σ H Q) :
    tOp r (tG X.K cl W (rD X.K) (evE rn i)) (tG X.K cl W (rD X.K) (evE rn j)) σ H Q := by
  obtain ⟨m, B, e, S, hS, hE, h⟩ := of_tF h
  rw [ev_op2] at h
  refine tG_bindF hS hE h fun d S1 m1 H1 v x1 hS1 hE1 r1 h1 eq1 => ?_
  refine tG_bindF hS1 hE1 h1 fun d' S2 m2 H2 v' x2 hS2 hE2 r2 h2 eq2 => ?_
  exact opF_fin (ds := [d, d']) (vs := [v, v']) ho hy hS2 ⟨v, [v'], rfl, x2.repD r1, v', [], rfl, r2, rfl⟩ h2 v v' rfl
theorem fe_bin {op : Operator} {r : R2} {f : List P → Option P} {a b : Expr} {i j : IE} (ho : OpR X (binaryOp op) r) (hv : OpF X.K (rOf2 r) f) (hy : ∀ xs y, f xs = some y → (∃ xs, y = .lst xs) ∨ (∃ ks xs, y = .dic ks xs)) (ha : DE X cl W a (evE rn i)) (hb : DE X cl W b (evE rn j)) :
    FE X cl W (.BinOp a op b pos) (evE rn (.op f (.cons i (.cons j .nil)))) := PE.imp (pe_op ho ha hb) fun _ _ _ h => tOp_ofF hv hy h
theorem tCB_ofF {r : List V → Hp → VK → Prop} {f : List P → Option P} {is : IEs} (ho : OpF X.K r f) (hy : ∀ xs y, f xs = some y → (∃ xs, y = .lst xs) ∨ (∃ ks xs, y = .dic ks xs)) {σ : L2.St} {H : Hp} {Q : VK} (h : tF X.K cl W (evE rn (.op f is)) σ H Q) : tCB r (tG X.K cl W (rDs X.K) (evEs rn is)) σ H Q := by
  obtain ⟨m, B, e, S, hS, hE, h⟩ := of_tF h
  rw [ev_ops] at h
  refine tG_bindF hS hE h fun ds S1 m1 H1 vs x1 hS1 hE1 r1 h1 eq1 => ?_
  exact opF_fin ho hy hS1 r1 h1
theorem fe_callB {x : Str} {p : Pos} {id : String} {r : List V → Hp → VK → Prop} {f : List P → Option P} {a : Expr} {es : List Expr} {is : IEs} (hc : CallR X (.builtin id) r) (hv : OpF X.K r f) (hy : ∀ xs y, f xs = some y → (∃ xs, y = .lst xs) ∨ (∃ ks xs, y = .dic ks xs)) (hg : Gl X x) (hm : X.mg x = none) (hb : bootBuiltins x = some (.builtin id))
    (ha : DA X cl W (a :: es) (evEs rn is)) (hn : x ≠ "__name__") (hdb : (x == ("__debug__" : Str)) = false) (he : starEach (a :: es) X.env = (false, eval a X.env) :: starEach es X.env) (hpl : (backTo pos (starEach es X.env)).any (·.1) = false) :
    FE X cl W (.Call (.Name x p) (a :: es) [] pos) (evE rn (.op f is)) := PE.imp (pe_callB hc hg hm hb ha hn hdb he hpl) fun _ _ _ h => tCB_ofF hv hy h
theorem fe_callTy {x : Str} {p : Pos} {T : String} {r : List V → Hp → VK → Prop} {f : List P → Option P} {a : Expr} {es : List Expr} {is : IEs} (hc : CallR X (.type T) r) (hv : OpF X.K r f) (hy : ∀ xs y, f xs = some y → (∃ xs, y = .lst xs) ∨ (∃ ks xs, y = .dic ks xs)) (hg : Gl X x) (hm : X.mg x = none) (hb : bootBuiltins x = some (.type T))
    (ha : DA X cl W (a :: es) (evEs rn is)) (hn : x ≠ "__name__") (hdb : (x == ("__debug__" : Str)) = false) (he : starEach (a :: es) X.env = (false, eval a X.env) :: starEach es X.env) (hpl : (backTo pos (starEach es X.env)).any (·.1) = false) :
    FE X cl W (.Call (.Name x p) (a :: es) [] pos) (evE rn (.op f is)) := PE.imp (pe_callTy hc hg hm hb ha hn hdb he hpl) fun _ _ _ h => tCB_ofF hv hy h
theorem fe_lst {es : List Expr} {is : IEs} (h : DA X cl W es (evEs rn is)) (hl : is.len ≤ 1000) : FE X cl W (.List es pos) (evE rn (.pk lstP is)) :=
  PE.imp (pe_lst h) fun σ H Q h => by
    obtain ⟨m, B, e, S, hS, hE, h⟩ := of_tF h
    rw [ev_pk] at h
    refine tG_bindF hS hE h fun ds S1 m1 H1 vs x1 hS1 hE1 r1 h1 eq1 => ⟨Nat.le_trans (by rw [← RepDs.len r1, evEs_len eq1]; exact hl) (Nat.le_of_lt (small1000 (Nat.le_refl _))), fun p np => ?_⟩
    unfold pkK at h1
    cases q : pures ds with
    | none => rw [q] at h1; exact h1.elim
    | some xs =>
      rw [q] at h1
      refine h1 m1 _ p vs (.same (Same.new np)) np (hS1.ban np (Same.new np) (by rw [upd_same]; exact fun z => nomatch z)) upd_same (((RepDs.pure r1 q).new np).less fun a z => ?_)
      rcases z with z | z | z
      · exact .inl (.inl z)
      · exact .inl (.inr z)
      · exact .inr z

/-! ### slices -/
def partO : P → Option (Option Int)
  | .non => some none
  | .int i => some (some i)
  | _ => none
def rPart : Rp D (Option Int) := fun _ _ _ d o => match d with
  | .p x => partO x = some o
  | _ => False
def DO (X : Cx) (cl : Cls_) (W : WX) (e : Option Expr) (f : Env → Store → R D) : Prop := PO X e (tG X.K cl W rPart f)
theorem PO.imp {X : Cx} {e : Option Expr} {t t' : TO} (h : PO X e t) (i : ∀ σ H Q, t' σ H Q → t σ H Q) : PO X e t' := ⟨fun pins s σ H Q I q => h.run pins s σ H Q I (i σ H Q q)⟩
theorem do_none : DO X cl W none (evE rn (.c .non)) := PO.imp po_none fun σ H Q h => by
  obtain ⟨m, B, e, S, hS, hE, h⟩ := h
  exact EndG.here h hS rfl
theorem do_some {a : Expr} {i : IE} (ha : DE X cl W a (evE rn i)) : DO X cl W (some a) (evE rn (.part i)) := PO.imp (po_some ha) fun σ H Q h => by
  obtain ⟨m, B, e, S, hS, hE, h⟩ := h
  simp only [evE] at h
  refine tG_bind hS hE h fun d S1 m1 H1 v x1 hS1 hE1 r1 h1 eq1 => ?_
  cases d with
  | p x =>
    cases x with
    | int i => exact ⟨i, r1, EndG.here h1 hS1 rfl⟩
    | _ => exact h1.elim
  | ref l => exact h1.elim
  | exc c fs => exact h1.elim
def rSl (r : V → Option Int → Option Int → Hp → VK → Prop) (lo hi : Option Int) : List V → Hp → VK → Prop := fun vs H Q => ∀ x, vs = [x] → r x lo hi H Q
/-- x[lo:hi] by values -/
def OpS (K : PySem.W.Frag) (r : V → Option Int → Option Int → Hp → VK → Prop) (f : List P → Option P) : Prop :=
  ∀ (H : Hp) (pr : Addr → Prop) (x l h : P) (v : V) (lo hi : Option Int) (y : P) (Q : VK), (∀ a, pr a → H a ≠ none) → RepT K H pr x v → partO l = some lo → partO h = some hi → f [x, l, h] = some y → (∀ H' v, Same H H' → Rep K H' pr y v → Q v H') → r v lo hi H Q
def OpSF (K : PySem.W.Frag) (r : V → Option Int → Option Int → Hp → VK → Prop) (f : List P → Option P) : Prop :=
  ∀ (H : Hp) (pr : Addr → Prop) (x l h : P) (v : V) (lo hi : Option Int) (y : P) (Q : VK), (∀ a, pr a → H a ≠ none) → RepT K H pr x v → partO l = some lo → partO h = some hi → f [x, l, h] = some y → FrE K H pr y Q → r v lo hi H Q
theorem ev_op3 (f : List P → Option P) (i j k : IE) (e : Env) (S : Store) : evE rn (.op f (.cons i (.cons j (.cons k .nil)))) e S = (evE rn i e S).bind fun d S1 => (evE rn j e S1).bind fun d' S2 => (evE rn k e S2).bind fun d2 S3 => opK f [d, d', d2] S3 := by
  simp only [evE, evEs, R.bind_assoc, R.bind_ok]
  rfl
theorem rPart_p {H : Hp} {m : Mp} {B : Addr → Prop} {d : D} {o : Option Int} (h : rPart H m B d o) : ∃ x, d = .p x ∧ partO x = some o := by
  cases d with
  | p x => exact ⟨x, rfl, h⟩
  | _ => exact h.elim
theorem vals3 {S : Store} {d : D} {x y z : P} (h : val S d = some x) : vals S [d, .p y, .p z] = some [x, y, z] := by
  unfold vals
  rw [h]
  rfl
theorem vals3n {S : Store} {d : D} {y z : P} (h : val S d = none) : vals S [d, .p y, .p z] = none := by
  unfold vals
  rw [h]
theorem de_slice {r : V → Option Int → Option Int → Hp → VK → Prop} {f : List P → Option P} {a : Expr} {lo hi : Option Expr} {i j k : IE} {p2 : Pos} (hr : SlR X r) (hv : OpS X.K r f) (ha : DE X cl W a (evE rn i)) (hl : DO X cl W lo (evE rn j)) (hh : DO X cl W hi (evE rn k)) :
    DE X cl W (.Subscript a (.Slice lo hi none p2) pos) (evE rn (.op f (.cons i (.cons j (.cons k .nil))))) := PE.imp (pe_slice hr ha hl hh) fun σ H Q h => by
  obtain ⟨m, B, e, S, hS, hE, h⟩ := h
  rw [ev_op3] at h
  refine tG_bind hS hE h fun d S1 m1 H1 v x1 hS1 hE1 r1 h1 eq1 => ?_
  refine tG_bind hS1 hE1 h1 fun d2 S2 m2 H2 o2 x2 hS2 hE2 r2 h2 eq2 => ?_
  refine tG_bind hS2 hE2 h2 fun d3 S3 m3 H3 o3 x3 hS3 hE3 r3 h3 eq3 => ?_
  obtain ⟨y2, rfl, p2⟩ := rPart_p r2
  obtain ⟨y3, rfl, p3⟩ := rPart_p r3
  unfold opK at h3
  cases q : val S3 d with
  | none => rw [vals3n q] at h3; exact h3.elim
  | some x =>
    rw [vals3 q] at h3
    dsimp only at h3
    cases q2 : f [x, y2, y3] with
    | none => rw [q2] at h3; exact h3.elim
    | some y =>
      rw [q2] at h3
      exact hv H3 (Pr m3 B) x y2 y3 v o2 o3 y Q (fun a p => hS3.pr p) (((x2.trans x3).repD r1).top hS3 q) p2 p3 q2 fun H' v s rp => h3 m3 H' v (.same s) (hS3.same s) rp
theorem fe_slice {r : V → Option Int → Option Int → Hp → VK → Prop} {f : List P → Option P} {a : Expr} {lo hi : Option Expr} {i j k : IE} {p2 : Pos} (hr : SlR X r) (hv : OpSF X.K r f) (hy : ∀ xs y, f xs = some y → ∃ xs, y = .lst xs) (ha : DE X cl W a (evE rn i)) (hl : DO X cl W lo (evE rn j)) (hh : DO X cl W hi (evE rn k)) :
    FE X cl W (.Subscript a (.Slice lo hi none p2) pos) (evE rn (.op f (.cons i (.cons j (.cons k .nil))))) := PE.imp (pe_slice hr ha hl hh) fun σ H Q h => by
  obtain ⟨m, B, e, S, hS, hE, h⟩ := of_tF h
  rw [ev_op3] at h
  refine tG_bindF hS hE h fun d S1 m1 H1 v x1 hS1 hE1 r1 h1 eq1 => ?_
  refine tG_bindF hS1 hE1 h1 fun d2 S2 m2 H2 o2 x2 hS2 hE2 r2 h2 eq2 => ?_
  refine tG_bindF hS2 hE2 h2 fun d3 S3 m3 H3 o3 x3 hS3 hE3 r3 h3 eq3 => ?_
  obtain ⟨y2, rfl, p2⟩ := rPart_p r2
  obtain ⟨y3, rfl, p3⟩ := rPart_p r3
  unfold opK at h3
  cases q : val S3 d with
  | none => rw [vals3n q] at h3; exact h3.elim
  | some x =>
    rw [vals3 q] at h3
    dsimp only at h3
    cases q2 : f [x, y2, y3] with
    | none => rw [q2] at h3; exact h3.elim
    | some y =>
      rw [q2] at h3
      refine hv H3 (Pr m3 B) x y2 y3 v o2 o3 y Q (fun a p => hS3.pr p) (((x2.trans x3).repD r1).top hS3 q) p2 p3 q2 ?_
      obtain ⟨zs, rfl⟩ := hy _ _ q2
      intro p ws H' np s ep rp
      refine h3 m3 H' p ws (.same s) np (hS3.ban np s (by rw [ep]; exact fun z => nomatch z)) ep (rp.less fun a z => ?_)
      rcases z with z | z | z
      · exact .inl (.inl z)
      · exact .inl (.inr z)
      · exact .inr z

/-! ### methods of built-in types -/
def rOfM (r : V → List V → Hp → VK → Prop) : List V → Hp → VK → Prop := fun vs H Q => ∀ x xs, vs = x :: xs → r x xs H Q
theorem tyV_top {K : PySem.W.Frag} {H : Hp} {pr : Addr → Prop} {x : P} {v : V} {T : String} (r : RepT K H pr x v) (h : isTy T x = true) (hd : ∀ ks xs, x = .dic ks xs → ∀ a o u, v = .ref a → H a ≠ some (.frz o u)) : tyV K T v H := by
  cases x with
  | str z =>
    obtain ⟨e, _⟩ := r
    subst e
    exact (of_decide_eq_true h : T = "str")
  | lst xs =>
    obtain ⟨a, vs, e, rd, _⟩ := r
    subst e
    exact .inl ⟨of_decide_eq_true h, vs, .of rd⟩
  | dic ks xs =>
    obtain ⟨a, vs, u, e, rd, d, _⟩ := r
    subst e
    refine .inr (.inr (.inl ⟨of_decide_eq_true h, ?_⟩))
    rcases rd with rd | ⟨o, rd⟩
    · rcases d.2 with ⟨kk, _, eu⟩ | ⟨kk, _, eu⟩
      · exact .inl ⟨_, by rw [rd, eu]⟩
      · exact .inr ⟨_, by rw [rd, eu]⟩
    · exact absurd rd (hd ks xs rfl a o u rfl)
  | _ => cases h
def mtK (rn : Rn) (T : P → Bool) (f : List P → Option P) (is : IEs) (e : Env) (d : D) (S1 : Store) : R D :=
  match val S1 d with
    | some x => if T x then (evEs rn is e S1).bind fun ds S2 => opK f (d :: ds) S2 else .no
    | none => .no
theorem ev_meth (T : P → Bool) (f : List P → Option P) (i : IE) (is : IEs) (e : Env) (S : Store) : evE rn (.meth T f i is) e S = (evE rn i e S).bind fun d S1 => mtK rn T f is e d S1 := by
  simp only [evE]
  rfl
theorem mt_open {K : PySem.W.Frag} {m : Mp} {B : Addr → Prop} {σ : L2.St} {H : Hp} {S1 : Store} {d : D} {T : P → Bool} {f : List P → Option P} {is : IEs} {e : Env} {Q : VK} (h : EndG K cl W (rD K) m B σ H (mtK rn T f is e d S1) Q) :
    ∃ x, val S1 d = some x ∧ T x = true ∧ EndG K cl W (rD K) m B σ H ((evEs rn is e S1).bind fun ds S2 => opK f (d :: ds) S2) Q := by
  unfold mtK at h
  cases q : val S1 d with
  | none => rw [q] at h; exact h.elim
  | some x =>
    rw [q] at h
    dsimp only at h
    by_cases t : T x = true
    · rw [if_pos t] at h
      exact ⟨x, rfl, t, h⟩
    · rw [if_neg t] at h
      exact h.elim
theorem mt_openF {K : PySem.W.Frag} {m : Mp} {B : Addr → Prop} {σ : L2.St} {H : Hp} {S1 : Store} {d : D} {T : P → Bool} {f : List P → Option P} {is : IEs} {e : Env} {Q : VK} (h : EndF K cl W m B σ H (mtK rn T f is e d S1) Q) :
    ∃ x, val S1 d = some x ∧ T x = true ∧ EndF K cl W m B σ H ((evEs rn is e S1).bind fun ds S2 => opK f (d :: ds) S2) Q := by
  unfold mtK at h
  cases q : val S1 d with
  | none => rw [q] at h; exact h.elim
  | some x =>
    rw [q] at h
    dsimp only at h
    by_cases t : T x = true
    · rw [if_pos t] at h
      exact ⟨x, rfl, t, h⟩
    · rw [if_neg t] at h
      exact h.elim
/-- a text's or a list's method -/
theorem de_meth {T id : String} {name : Str} {o a : Expr} {es : List Expr} {i : IE} {is : IEs} {apos : Pos} {r : V → List V → Hp → VK → Prop} {f : List P → Option P} (hT : T ≠ "dict") (pa : PlainAttrs T) (slot : Slot T name id) (hty : typeOf (.builtin id) = pure (.type "method_descriptor")) (hm : MtR X id r) (hv : OpV X.K (rOfM r) f)
    (ho : DE X cl W o (evE rn i)) (ha : DA X cl W (a :: es) (evEs rn is)) (hbase : attributeBase o name X.env (eval o X.env) = eval o X.env)
    (hfew : ((backTo pos (starEach (a :: es) X.env)).all (fun x => !x.1) && (backToKw pos (keywordEach [] X.env)).all (fun x => x.1.isSome)
      && decide ((a :: es).length + ([] : List Keyword).length + (if ([] : List Keyword).isEmpty then 0 else 1) < 30)) = true)
    (hline : (apos.endLine == pos.line) = true) (hs : starEach (a :: es) X.env = (false, eval a X.env) :: starEach es X.env) (hplain : (backTo pos (starEach es X.env)).any (·.1) = false) :
    DE X cl W (.Call (.Attribute o name apos) (a :: es) [] pos) (evE rn (.meth (isTy T) f i is)) := PE.imp (pe_bm pa slot hty hm ho ha hbase hfew hline hs hplain) fun σ H Q h => by
  obtain ⟨m, B, e, S, hS, hE, h⟩ := h
  rw [ev_meth] at h
  refine tG_bind hS hE h fun d S1 m1 H1 v x1 hS1 hE1 r1 h1 eq1 => ?_
  obtain ⟨x, q, t, h1⟩ := mt_open h1
  refine ⟨tyV_top (r1.top hS1 q) t (fun ks xs e => by subst e; exact absurd (of_decide_eq_true t) hT), ?_⟩
  refine tG_bind hS1 hE1 h1 fun ds S2 m2 H2 vs x2 hS2 hE2 r2 h2 eq2 => ?_
  exact op_fin (ds := d :: ds) (vs := v :: vs) hv hS2 ⟨v, vs, rfl, x2.repD r1, r2⟩ h2 v vs rfl
theorem de_meth0 {T id : String} {name : Str} {o : Expr} {i : IE} {apos : Pos} {r : V → List V → Hp → VK → Prop} {f : List P → Option P} (hT : T ≠ "dict") (pa : PlainAttrs T) (slot : Slot T name id) (hty : typeOf (.builtin id) = pure (.type "method_descriptor")) (hm : MtR X id r) (hv : OpV X.K (rOfM r) f)
    (ho : DE X cl W o (evE rn i)) (hbase : attributeBase o name X.env (eval o X.env) = eval o X.env) (hline : (apos.endLine == pos.line) = true) :
    DE X cl W (.Call (.Attribute o name apos) [] [] pos) (evE rn (.meth (isTy T) f i .nil)) := PE.imp (pe_bm0 pa slot hty hm ho hbase hline) fun σ H Q h => by
  obtain ⟨m, B, e, S, hS, hE, h⟩ := h
  rw [ev_meth] at h
  refine tG_bind hS hE h fun d S1 m1 H1 v x1 hS1 hE1 r1 h1 eq1 => ?_
  obtain ⟨x, q, t, h1⟩ := mt_open h1
  refine ⟨tyV_top (r1.top hS1 q) t (fun ks xs e => by subst e; exact absurd (of_decide_eq_true t) hT), ?_⟩
  simp only [evEs, R.bind_ok] at h1
  exact op_fin (ds := [d]) (vs := [v]) hv hS1 ⟨v, [], rfl, r1, rfl⟩ h1 v [] rfl
theorem fe_meth {T id : String} {name : Str} {o a : Expr} {es : List Expr} {i : IE} {is : IEs} {apos : Pos} {r : V → List V → Hp → VK → Prop} {f : List P → Option P} (hT : T ≠ "dict") (pa : PlainAttrs T) (slot : Slot T name id) (hty : typeOf (.builtin id) = pure (.type "method_descriptor")) (hm : MtR X id r) (hv : OpF X.K (rOfM r) f) (hy : ∀ xs y, f xs = some y → (∃ xs, y = .lst xs) ∨ (∃ ks xs, y = .dic ks xs))
    (ho : DE X cl W o (evE rn i)) (ha : DA X cl W (a :: es) (evEs rn is)) (hbase : attributeBase o name X.env (eval o X.env) = eval o X.env)
    (hfew : ((backTo pos (starEach (a :: es) X.env)).all (fun x => !x.1) && (backToKw pos (keywordEach [] X.env)).all (fun x => x.1.isSome)
      && decide ((a :: es).length + ([] : List Keyword).length + (if ([] : List Keyword).isEmpty then 0 else 1) < 30)) = true)
    (hline : (apos.endLine == pos.line) = true) (hs : starEach (a :: es) X.env = (false, eval a X.env) :: starEach es X.env) (hplain : (backTo pos (starEach es X.env)).any (·.1) = false) :
    FE X cl W (.Call (.Attribute o name apos) (a :: es) [] pos) (evE rn (.meth (isTy T) f i is)) := PE.imp (pe_bm pa slot hty hm ho ha hbase hfew hline hs hplain) fun σ H Q h => by
  obtain ⟨m, B, e, S, hS, hE, h⟩ := of_tF h
  rw [ev_meth] at h
  refine tG_bindF hS hE h fun d S1 m1 H1 v x1 hS1 hE1 r1 h1 eq1 => ?_
  obtain ⟨x, q, t, h1⟩ := mt_openF h1
  refine ⟨tyV_top (r1.top hS1 q) t (fun ks xs e => by subst e; exact absurd (of_decide_eq_true t) hT), ?_⟩
  refine tG_bindF hS1 hE1 h1 fun ds S2 m2 H2 vs x2 hS2 hE2 r2 h2 eq2 => ?_
  exact opF_fin (ds := d :: ds) (vs := v :: vs) hv hy hS2 ⟨v, vs, rfl, x2.repD r1, r2⟩ h2 v vs rfl
end
end DL

set_option maxRecDepth 100000
set_option maxHeartbeats 1000000
/-! DJ4: calls of defs, what is given up, changes of lists -/
namespace DL
open PySem PySem.Spec PyProof.Rows L2
/-- what a def promises: it tells what g tells -/
def spD (K : PySem.W.Frag) (cl : Cls_) (n : Nat) (g : List D → Store → R D) : Sp := fun vs H Q E =>
  ∃ m B S ds, RelS K m B S H ∧ RepDs K H m B ds vs ∧ ds.length = n ∧ EndG K cl (fun cls dd _ H' => E cls dd H') (rD K) m B [] H (g ds S) Q
section
variable {X : Cx} {cl : Cls_} {W : WX} {rn : Rn} {pos : Pos}
theorem EndG.w {K : PySem.W.Frag} {α β : Type} {rep : Rp α β} {m : Mp} {B : Addr → Prop} {σ σ' : L2.St} {H : Hp} {W W' : WX} {r : R α} {Q : β → Hp → Prop} (h : EndG K cl W rep m B σ H r Q) (i : ∀ cls dd H', W cls dd σ H' → W' cls dd σ' H') : EndG K cl W' rep m B σ' H r Q := by
  cases r with
  | ok a S => exact h
  | ex c fs S => exact fun m' H' cls dd x rs xr => i cls dd H' (h m' H' cls dd x rs xr)
  | no => exact h
theorem de_call {k n fid : Nat} {f : Addr} {fd : FuncData} {ps : List Str} {x : Str} {p : Pos} {a : Expr} {es : List Expr} {is : IEs} (F : FnOk X.prog X.w X.K X.mg X.base (L2.CX X.prog X.w) k f fd ps (spD X.K cl n (rn fid))) (hr : Room k X.A) (hg : Gl X x) (hm : X.mg x = some (.ref f))
    (hk : PySem.W.keepIn X.K (.ref f) = true) (hb : Binds X.K fd ps []) (tk : Takes X W) (ha : DA X cl W (a :: es) (evEs rn is)) (hn : is.len = n)
    (hdb : (x == ("__debug__" : Str)) = false) (he : starEach (a :: es) X.env = (false, eval a X.env) :: starEach es X.env) (hpl : (backTo pos (starEach es X.env)).any (·.1) = false) :
    DE X cl W (.Call (.Name x p) (a :: es) [] pos) (evE rn (.call fid is)) :=
  PE.imp (pe_callS F hr hg hm hk hb (fun σ => passAt tk σ) ha hdb he hpl) fun σ H Q h => by
    obtain ⟨m, B, e, S, hS, hE, h⟩ := h
    simp only [evE] at h
    refine tG_bind hS hE h fun ds S1 m1 H1 vs x1 hS1 hE1 r1 h1 eq1 => ?_
    exact ⟨m1, B, S1, ds, hS1, r1, by rw [evEs_len eq1, hn], h1.w fun cls dd H' z => z⟩
end
/-! ### what is given up -/
section
variable {K : PySem.W.Frag} {m m1 : Mp} {B : Addr → Prop} {H H1 : Hp} {S S1 : Store} {l : Nat} {a : Addr}
theorem okT_at : ∀ {S0 S : Store} {i : Nat} {kvs : List (P × Nat)}, okT S0 S = true → i < S0.length → S[i]? = some (.dir kvs) → S0[i]? = some (.dir kvs)
  | [], S, i, kvs, h, hi, e => by simp at hi
  | b :: r, [], i, kvs, h, hi, e => by simp at e
  | b :: r, c :: s, 0, kvs, h, hi, e => by
    simp at e
    subst e
    unfold okT at h
    rw [Bool.and_eq_true] at h
    simp [of_decide_eq_true h.1]
  | b :: r, c :: s, i + 1, kvs, h, hi, e => by
    unfold okT at h
    rw [Bool.and_eq_true] at h
    simp only [List.getElem?_cons_succ] at e ⊢
    exact okT_at h.2 (by simpa using hi) e
theorem okT_len : ∀ {S0 S : Store}, okT S0 S = true → S0.length ≤ S.length
  | [], S, h => Nat.zero_le _
  | b :: r, [], h => by simp [okT] at h
  | b :: r, c :: s, h => by
    unfold okT at h
    rw [Bool.and_eq_true] at h
    simp [okT_len h.2]
theorem take_at {α : Type} {l : List α} {n i : Nat} {x : α} (h : (l.take n)[i]? = some x) : i < n ∧ l[i]? = some x := by
  rw [List.getElem?_take] at h
  split at h
  · exact ⟨by assumption, h⟩
  · cases h
/-- only the objects that stood ahead are kept -/
theorem mem_take {α : Type} {x : α} {n : Nat} {l : List α} (h : x ∈ l.take n) : x ∈ l := (List.take_sublist n l).mem h
theorem Ext.back (x : Ext m H m1 H1) {n : Nat} (hn : m.length ≤ n) : Ext m H (m1.take n) H1 where
  len := by
    rw [List.length_take]
    have := x.len
    omega
  keep := fun i y e => by
    have hi : i < m.length := (List.getElem?_eq_some_iff.mp e).1
    rw [List.getElem?_take_of_lt (by omega)]
    exact x.keep i y e
  obj := fun b o n' e => ⟨(x.obj b o n' e).1, fun z => (x.obj b o n' e).2 (mem_take z)⟩
  tup := x.tup
  dom := x.dom
theorem Pr.take {n : Nat} (b : Addr) (h : Pr (m.take n) B b) : Pr m B b := h.elim (fun z => .inl (mem_take z)) .inr
theorem RepDs.refs : ∀ {ks : List (P × Nat)} {vs : List V} {m' : Mp}, RepDs K H m B (ks.map fun p => .ref p.2) vs → (∀ p ∈ ks, p.2 < m'.length) → (∀ (i : Nat) (y : Option Addr), m[i]? = some y → i < m'.length → m'[i]? = some y) → RepDs K H m' B (ks.map fun p => .ref p.2) vs
  | [], vs, m', h, _, _ => h
  | p :: r, vs, m', h, hl, hk => by
    obtain ⟨v, s, rfl, h1, h2⟩ := h
    refine ⟨v, s, rfl, ?_, RepDs.refs h2 (fun q hq => hl q (List.mem_cons_of_mem _ hq)) hk⟩
    have hp := hl p List.mem_cons_self
    dsimp only [RepD] at h1 ⊢
    cases q : m[p.2]? with
    | none => rw [q] at h1; exact h1.elim
    | some y =>
      rw [q] at h1
      rw [hk _ _ q hp]
      exact h1
theorem RepDs.refs_lt : ∀ {ks : List (P × Nat)} {vs : List V}, RepDs K H m B (ks.map fun p => .ref p.2) vs → ∀ p ∈ ks, p.2 < m.length
  | [], vs, h, p, hp => by cases hp
  | q :: r, vs, h, p, hp => by
    obtain ⟨v, s, rfl, h1, h2⟩ := h
    rcases List.mem_cons.mp hp with e | hp
    · subst e
      dsimp only [RepD] at h1
      cases z : m[p.2]? with
      | none => rw [z] at h1; exact h1.elim
      | some y => exact (List.getElem?_eq_some_iff.mp z).1
    · exact RepDs.refs_lt h2 p hp
/-- the store cut to what stood ahead of it -/
theorem RelS.back (r0 : RelS K m B S H) (x : Ext m H m1 H1) (r : RelS K m1 B S1 H1) (ok : okT S S1 = true) : RelS K (m1.take S.length) B (S1.take S.length) H1 where
  len := by rw [List.length_take, List.length_take, r.len]
  inj := fun i j b e1 e2 => by
    have h1 := take_at e1
    have h2 := take_at e2
    exact r.inj i j b h1.2 h2.2
  ob := fun i b e => by
    obtain ⟨hi, e⟩ := take_at e
    obtain ⟨o, q, q2⟩ := r.ob i b e
    refine ⟨o, by rw [List.getElem?_take_of_lt hi, q], ?_⟩
    cases o with
    | lst xs =>
      obtain ⟨vs, e, h⟩ := q2
      exact ⟨vs, e, h.less Pr.take⟩
    | dic kvs =>
      obtain ⟨vs, u, e, d, h⟩ := q2
      exact ⟨vs, u, e, d, h.less Pr.take⟩
    | dir kvs =>
      obtain ⟨vs, u, e', d, h⟩ := q2
      have z := okT_at ok hi q
      have hm : i < m.length := by rw [r0.len]; exact hi
      have hlt : ∀ p ∈ kvs, p.2 < m.length := by
        have q3 := x.keep i _ (List.getElem?_eq_getElem hm)
        rw [e] at q3
        have q4 : m[i]? = some (some b) := by
          rcases q3 with q3 | q3
          · rw [List.getElem?_eq_getElem hm]; exact q3.symm
          · cases q3
        obtain ⟨o', g1, g2⟩ := r0.ob i b q4
        rw [z] at g1
        cases g1
        obtain ⟨vs', u', _, _, h'⟩ := g2
        exact RepDs.refs_lt h'
      refine ⟨vs, u, e', d, RepDs.refs h (fun p hp => ?_) fun j y ej hj => ?_⟩
      · rw [List.length_take, ← r0.len]
        have := hlt p hp
        have := x.len
        omega
      · rw [List.getElem?_take_of_lt, ej]
        rw [List.length_take] at hj
        omega
    | dead => exact q2.elim
  dead := fun i e => by
    obtain ⟨hi, e⟩ := take_at e
    rw [List.getElem?_take_of_lt hi, r.dead i e]
  bd := fun b z => ⟨(r.bd b z).1, fun q => (r.bd b z).2 (mem_take q)⟩
/-- one object given up in its place -/
theorem mem_set_none {b : Addr} {l : Nat} (h : some b ∈ m.set l none) : some b ∈ m := by
  rcases List.mem_or_eq_of_mem_set h with h | h
  · exact h
  · cases h
theorem Pr.kill {l : Nat} (b : Addr) (h : Pr (m.set l none) B b) : Pr m B b := h.elim (fun z => .inl (mem_set_none z)) .inr
theorem RepD.kill {l : Nat} : ∀ {d : D} {v : V}, RepD K H m B d v → RepD K H (m.set l none) B d v
  | .p x, v, h => Rep.less Pr.kill h
  | .ref j, v, h => by
    dsimp only [RepD] at h ⊢
    by_cases e : l = j
    · subst e
      by_cases hl : l < m.length
      · rw [List.getElem?_set_self hl]
        trivial
      · rw [List.getElem?_eq_none (Nat.le_of_not_lt hl)] at h
        exact h.elim
    · rw [List.getElem?_set_ne e]
      exact h
  | .exc _ _, v, h => h
theorem RepDs.kill {l : Nat} : ∀ {ds : List D} {vs : List V}, RepDs K H m B ds vs → RepDs K H (m.set l none) B ds vs
  | [], v, h => h
  | d :: r, v, h => by
    obtain ⟨v, s, rfl, a, b⟩ := h
    exact ⟨v, s, rfl, a.kill, b.kill⟩
theorem Ext.kill {l : Nat} : Ext m H (m.set l none) H where
  len := by simp
  keep := fun i y e => by
    by_cases h : l = i
    · subst h
      right
      rw [List.getElem?_set_self (List.getElem?_eq_some_iff.mp e).1]
    · left
      rw [List.getElem?_set_ne h, e]
  obj := fun b o n e => ⟨e, fun z => n (mem_set_none z)⟩
  tup := fun _ _ e => e
  dom := fun _ e => e
theorem RelS.kill (r : RelS K m B S H) (l : Nat) : RelS K (m.set l none) B (S.set l .dead) H where
  len := by simp [r.len]
  inj := fun i j b e1 e2 => by
    have f : ∀ {i : Nat}, (m.set l none)[i]? = some (some b) → m[i]? = some (some b) := fun {i} e => by
      by_cases h : l = i
      · subst h
        rw [List.getElem?_set_self'] at e
        cases q : m[l]? with
        | none => rw [q] at e; cases e
        | some y => rw [q] at e; cases e
      · rw [List.getElem?_set_ne h] at e
        exact e
    exact r.inj i j b (f e1) (f e2)
  ob := fun i b e => by
    by_cases h : l = i
    · subst h
      rw [List.getElem?_set_self'] at e
      cases q : m[l]? with
      | none => rw [q] at e; cases e
      | some y => rw [q] at e; cases e
    · rw [List.getElem?_set_ne h] at e
      obtain ⟨o, q, q2⟩ := r.ob i b e
      refine ⟨o, by rw [List.getElem?_set_ne h, q], ?_⟩
      cases o with
      | lst xs =>
        obtain ⟨vs, e, h⟩ := q2
        exact ⟨vs, e, h.less Pr.kill⟩
      | dic kvs =>
        obtain ⟨vs, u, e, d, h⟩ := q2
        exact ⟨vs, u, e, d, h.less Pr.kill⟩
      | dir kvs =>
        obtain ⟨vs, u, e, d, h⟩ := q2
        exact ⟨vs, u, e, d, h.kill⟩
      | dead => exact q2.elim
  dead := fun i e => by
    by_cases h : l = i
    · subst h
      rw [List.getElem?_set_self']
      rw [List.getElem?_set_self'] at e
      cases q : m[l]? with
      | none => rw [q] at e; cases e
      | some y =>
        have : l < S.length := by rw [← r.len]; exact (List.getElem?_eq_some_iff.mp q).1
        rw [List.getElem?_eq_getElem this]
        rfl
    · rw [List.getElem?_set_ne h] at e
      rw [List.getElem?_set_ne h, r.dead i e]
  bd := fun b z => ⟨(r.bd b z).1, fun q => (r.bd b z).2 (mem_set_none q)⟩
theorem nomem_kill (r : RelS K m B S H) (h : m[l]? = some (some a)) : some a ∉ m.set l none := fun z => by
  obtain ⟨i, e⟩ := List.mem_iff_getElem?.mp z
  by_cases hi : l = i
  · subst hi
    rw [List.getElem?_set_self (List.getElem?_eq_some_iff.mp h).1] at e
    cases e
  · rw [List.getElem?_set_ne hi] at e
    exact hi (r.inj l i a h e)
theorem nomem_take (r : RelS K m B S H) {n : Nat} (h : m[l]? = some (some a)) (hn : n ≤ l) : some a ∉ m.take n := fun z => by
  obtain ⟨i, e⟩ := List.mem_iff_getElem?.mp z
  obtain ⟨hi, e⟩ := take_at e
  have := r.inj l i a h e
  omega
/-- the new world where the object at l is given up -/
theorem gone_rel (r0 : RelS K m B S H) (x : Ext m H m1 H1) (r : RelS K m1 B S1 H1) (hl : m1[l]? = some (some a)) (nB : ¬ B a) : ∃ m2, Ext m H m2 H1 ∧ RelS K m2 B (gone S l S1) H1 ∧ (∀ b, Pr m2 B b → Pr m1 B b) ∧ ¬ Pr m2 B a := by
  unfold gone
  by_cases c : l = S.length ∧ S1.length = S.length + 1 ∧ okT S S1 = true
  · rw [if_pos c]
    refine ⟨m1.take S.length, x.back (by rw [r0.len]; exact Nat.le_refl _), r0.back x r c.2.2, Pr.take, fun z => z.elim (nomem_take r hl (by omega)) nB⟩
  · rw [if_neg c]
    exact ⟨m1.set l none, x.trans .kill, r.kill l, Pr.kill, fun z => z.elim (nomem_kill r hl) nB⟩
theorem kill_many (a : Addr) : ∀ {kvs : List (P × Nat)} {m : Mp} {S : Store}, RelS K m B S H → ∃ m2, Ext m H m2 H ∧ RelS K m2 B (killR S kvs) H ∧ (∀ b, Pr m2 B b → Pr m B b) ∧ (∀ b, some b ∈ m2 → some b ∈ m) ∧ ∀ p ∈ kvs, ∀ b, m[p.2]? = some (some b) → some b ∉ m2
  | [], m, S, r => ⟨m, .refl, r, fun _ z => z, fun _ z => z, fun p hp => nomatch hp⟩
  | (k, l) :: rest, m, S, r => by
    obtain ⟨m2, x, r2, p2, s2, n2⟩ := kill_many a (kvs := rest) (r.kill l)
    refine ⟨m2, Ext.trans .kill x, r2, fun b z => Pr.kill b (p2 b z), fun b z => mem_set_none (s2 b z), fun p hp b e => ?_⟩
    rcases List.mem_cons.mp hp with h | hp
    · subst h
      exact fun z => nomem_kill r e (s2 b z)
    · by_cases h : l = p.2
      · exact fun z => nomem_kill (l := l) r (by rw [h]; exact e) (s2 b z)
      · exact n2 p hp b (by rw [List.getElem?_set_ne h]; exact e)
end
section
variable {X : Cx} {cl : Cls_} {W : WX} {rn : Rn} {pos : Pos}
theorem frz_vals {K : PySem.W.Frag} {H : Hp} {m m2 : Mp} {B : Addr → Prop} {S : Store} (r : RelS K m B S H) (hp : ∀ b, Pr m2 B b → Pr m B b) : ∀ {kvs : List (P × Nat)} {ws : List V} {vs : List P}, RepDs K H m B (kvs.map fun p => .ref p.2) ws → freezeR S kvs = some vs →
    (∀ p ∈ kvs, ∀ b, m[p.2]? = some (some b) → some b ∉ m2) → Reps K H (Pr m2 B) vs ws
  | [], ws, vs, h, e, _ => by
    cases e
    exact Reps.nil_iff.mpr h
  | (k, l) :: rest, ws, vs, h, e, n => by
    obtain ⟨v, s, rfl, h1, h2⟩ := h
    unfold freezeR at e
    cases q : S[l]?.bind oval with
    | none => rw [q] at e; cases e
    | some x =>
      rw [q] at e
      cases q2 : freezeR S rest with
      | none => rw [q2] at e; cases e
      | some xs =>
        rw [q2] at e
        cases e
        refine Reps.cons_iff.mpr ⟨v, s, rfl, ?_, frz_vals r hp h2 q2 fun p hq => n p (List.mem_cons_of_mem _ hq)⟩
        dsimp only [RepD] at h1
        cases z : m[l]? with
        | none => rw [z] at h1; exact h1.elim
        | some y =>
          rw [z] at h1
          cases y with
          | none =>
            rw [r.dead l z] at q
            cases q
          | some a =>
            subst h1
            have na : ¬ Pr m2 B a := fun w => w.elim (n (k, l) List.mem_cons_self a z) fun w => (r.bd a w).2 (List.mem_of_getElem? z)
            obtain ⟨o, q3, q4⟩ := r.ob l a z
            rw [q3] at q
            cases o with
            | lst xs =>
              cases q
              obtain ⟨ws, e, h⟩ := q4
              exact ⟨a, ws, rfl, na, e, h.less hp⟩
            | dic kvs =>
              cases q
              obtain ⟨ws, u, e, d, h⟩ := q4
              exact ⟨a, ws, u, rfl, na, .inl e, d, h.less hp⟩
            | dir kvs => cases q
            | dead => cases q
theorem DE.frz {a : Expr} {i : IE} (h : DE X cl W a (evE rn i)) : DE X cl W a (evE rn (.frz i)) := PE.imp h fun σ H Q h => by
  obtain ⟨m, B, e, S, hS, hE, h⟩ := h
  simp only [evE] at h
  refine tG_bind hS hE h fun d S1 m1 H1 v x1 hS1 hE1 r1 h1 eq1 => ?_
  rw [eq1, R.bind_ok] at h
  cases d with
  | p x => exact EndG.here h1 hS1 r1
  | exc c fs => exact r1.elim
  | ref l =>
    have r1' : RepD X.K H1 m1 B (.ref l) v := r1
    dsimp only [RepD] at r1'
    cases z : m1[l]? with
    | none => rw [z] at r1'; exact r1'.elim
    | some y =>
      rw [z] at r1'
      cases y with
      | none =>
        simp only [frzD, hS1.dead l z] at h
        exact h.elim
      | some b =>
        subst r1'
        obtain ⟨o, q3, q4⟩ := hS1.ob l b z
        have nB : ¬ B b := fun w => (hS1.bd b w).2 (List.mem_of_getElem? z)
        simp only [frzD, q3] at h
        cases o with
        | lst xs =>
          obtain ⟨ws, e, g⟩ := q4
          obtain ⟨m2, x2, r2, p2, n2⟩ := gone_rel hS x1 hS1 z nB
          exact h m2 H1 (.ref b) x2 r2 ⟨b, ws, rfl, n2, e, g.less p2⟩
        | dic kvs =>
          obtain ⟨ws, u, e, d, g⟩ := q4
          obtain ⟨m2, x2, r2, p2, n2⟩ := gone_rel hS x1 hS1 z nB
          exact h m2 H1 (.ref b) x2 r2 ⟨b, ws, u, rfl, n2, .inl e, d, g.less p2⟩
        | dir kvs =>
          obtain ⟨ws, u, e, d, g⟩ := q4
          dsimp only at h
          cases q5 : freezeR S1 kvs with
          | none => rw [q5] at h; exact h.elim
          | some vs =>
            rw [q5] at h
            obtain ⟨m2, x2, r2, p2, s2, n2⟩ := kill_many b (kvs := kvs) (hS1.kill l)
            have n3 : ∀ p ∈ kvs, ∀ c, m1[p.2]? = some (some c) → some c ∉ m2 := fun p hp c ec w => by
              by_cases hl : l = p.2
              · exact nomem_kill hS1 (l := l) (by rw [hl]; exact ec) (s2 c w)
              · exact n2 p hp c (by rw [List.getElem?_set_ne hl]; exact ec) w
            refine h m2 H1 (.ref b) ((x1.trans .kill).trans x2) r2 ⟨b, ws, u, rfl, fun w => w.elim (fun w => nomem_kill hS1 z (s2 b w)) nB, .inl e, d, ?_⟩
            exact frz_vals hS1 (fun c w => Pr.kill c (p2 c w)) g q5 n3
        | dead => exact h.elim
end
end DL

set_option maxRecDepth 100000
set_option maxHeartbeats 1000000
/-! DS1: statements -/
namespace DL
open PySem PySem.Spec PyProof.Rows L2
section
variable (K : PySem.W.Frag) (cl : Cls_) (W : WX)
def EndS (m : Mp) (B : Addr → Prop) (H : Hp) (r : RS) (D : Ends) : Prop :=
  match r with
  | .nx e' S' => ∀ m' H' σ', Ext m H m' H' → RelS K m' B S' H' → RelE K m' B e' σ' H' → D.nx σ' H'
  | .bk e' S' => ∀ m' H' σ', Ext m H m' H' → RelS K m' B S' H' → RelE K m' B e' σ' H' → D.bk σ' H'
  | .ct e' S' => ∀ m' H' σ', Ext m H m' H' → RelS K m' B S' H' → RelE K m' B e' σ' H' → D.ct σ' H'
  | .ret d S' => ∀ m' H' v, Ext m H m' H' → RelS K m' B S' H' → RepD K H' m' B d v → D.rt v H'
  | .ex c fs e' S' => ∀ m' H' σ' cls dd, Ext m H m' H' → RelS K m' B S' H' → RelE K m' B e' σ' H' → XR K cl H' m' B c fs cls dd → W cls dd σ' H'
  | .no => False
def tS (f : Env → Store → RS) : TS := fun D σ H => ∃ m B e S, RelS K m B S H ∧ RelE K m B e σ H ∧ EndS K cl W m B H (f e S) D
end
def DS (X : Cx) (cl : Cls_) (W : WX) (s : Stmt) (f : Env → Store → RS) : Prop := PS X s (tS X.K cl W f)
def DSs (X : Cx) (cl : Cls_) (W : WX) (s : List Stmt) (f : Env → Store → RS) : Prop := PSs X s (tS X.K cl W f)
theorem PS.imp {X : Cx} {s : Stmt} {t t' : TS} (h : PS X s t) (i : ∀ D σ H, t' D σ H → t D σ H) : PS X s t' := ⟨fun pins s σ H D I q => h.run pins s σ H D I (i D σ H q)⟩
theorem PSs.imp {X : Cx} {s : List Stmt} {t t' : TS} (h : PSs X s t) (i : ∀ D σ H, t' D σ H → t D σ H) : PSs X s t' := ⟨fun pins s σ H D I q => h.run pins s σ H D I (i D σ H q)⟩
section
variable {K : PySem.W.Frag} {cl : Cls_} {W : WX} {m m1 : Mp} {B : Addr → Prop} {σ : L2.St} {H H1 : Hp} {S : Store} {e : Env}
theorem EndS.ext {r : RS} {D : Ends} (x : Ext m H m1 H1) (h : EndS K cl W m B H r D) : EndS K cl W m1 B H1 r D := by
  cases r with
  | nx e' S' => exact fun m' H' σ' x' rs re => h m' H' σ' (x.trans x') rs re
  | bk e' S' => exact fun m' H' σ' x' rs re => h m' H' σ' (x.trans x') rs re
  | ct e' S' => exact fun m' H' σ' x' rs re => h m' H' σ' (x.trans x') rs re
  | ret d S' => exact fun m' H' v x' rs rd => h m' H' v (x.trans x') rs rd
  | ex c fs e' S' => exact fun m' H' σ' cls dd x' rs re xr => h m' H' σ' cls dd (x.trans x') rs re xr
  | no => exact h
theorem tS_bind {α β : Type} {rep : Rp α β} {f : Env → Store → R α} {k : α → Store → RS} {D : Ends} {Q1 : β → Hp → Prop} (hS : RelS K m B S H) (hE : RelE K m B e σ H) (h : EndS K cl W m B H ((f e S).go e k) D)
    (next : ∀ a S1 m1 H1 b, Ext m H m1 H1 → RelS K m1 B S1 H1 → RelE K m1 B e σ H1 → rep H1 m1 B a b → EndS K cl W m1 B H1 (k a S1) D → f e S = .ok a S1 → Q1 b H1) : tG K cl W rep f σ H Q1 := by
  refine ⟨m, B, e, S, hS, hE, ?_⟩
  cases q : f e S with
  | ok a S1 =>
    rw [q] at h
    exact fun m' H' b x rs rp => next a S1 m' H' b x rs (x.relE hE) rp (EndS.ext x h) q
  | ex c fs S1 =>
    rw [q] at h
    exact fun m' H' cls dd x rs xr => h m' H' σ cls dd x rs (x.relE hE) xr
  | no =>
    rw [q] at h
    exact h.elim
end
section
variable {X : Cx} {cl : Cls_} {W : WX} {rn : Rn} {w : Nat} {pos : Pos}
/-! ### blocks, small statements -/
theorem dss_nil : DSs X cl W [] (evSs rn w .nil) := PSs.imp pss_nil fun D σ H h => by
  obtain ⟨m, B, e, S, hS, hE, h⟩ := h
  exact h m H σ .refl hS hE
theorem dss_cons {s : Stmt} {r : List Stmt} {i : IS} {is : ISs} (h1 : DS X cl W s (evS rn w i)) (h2 : DSs X cl W r (evSs rn w is)) : DSs X cl W (s :: r) (evSs rn w (.cons i is)) := PSs.imp (pss_cons h1 h2) fun D σ H h => by
  obtain ⟨m, B, e, S, hS, hE, h⟩ := h
  simp only [evSs] at h
  refine ⟨m, B, e, S, hS, hE, ?_⟩
  cases q : evS rn w i e S with
  | nx e1 S1 =>
    rw [q] at h
    exact fun m' H' σ' x rs re => ⟨m', B, e1, S1, rs, re, EndS.ext x h⟩
  | ret d S1 => rw [q] at h; exact h
  | bk e1 S1 => rw [q] at h; exact h
  | ct e1 S1 => rw [q] at h; exact h
  | ex c fs e1 S1 => rw [q] at h; exact h
  | no => rw [q] at h; exact h
theorem ds_pass : DS X cl W (.Pass pos) (evS rn w .pass) := PS.imp ps_pass fun D σ H h => by
  obtain ⟨m, B, e, S, hS, hE, h⟩ := h
  simp only [evS] at h
  exact h m H σ .refl hS hE
theorem ds_brk : DS X cl W (.Break pos) (evS rn w .brk) := PS.imp ps_break fun D σ H h => by
  obtain ⟨m, B, e, S, hS, hE, h⟩ := h
  simp only [evS] at h
  exact h m H σ .refl hS hE
theorem ds_cnt : DS X cl W (.Continue pos) (evS rn w .cnt) := PS.imp ps_continue fun D σ H h => by
  obtain ⟨m, B, e, S, hS, hE, h⟩ := h
  simp only [evS] at h
  exact h m H σ .refl hS hE
theorem ds_expr {a : Expr} {i : IE} (ha : DE X cl W a (evE rn i)) (hs : swapsWith a none pos.line X.env = pure false) : DS X cl W (.Expr a pos) (evS rn w (.expr i)) := PS.imp (ps_expr ha hs) fun D σ H h => by
  obtain ⟨m, B, e, S, hS, hE, h⟩ := h
  simp only [evS] at h
  refine tS_bind hS hE h fun d S1 m1 H1 v x1 hS1 hE1 r1 h1 eq1 => ?_
  exact h1 m1 H1 σ .refl hS1 hE1
theorem ds_ret {a : Expr} {i : IE} (ha : DE X cl W a (evE rn i)) : DS X cl W (.Return (some a) pos) (evS rn w (.ret i)) := PS.imp (ps_ret ha) fun D σ H h => by
  obtain ⟨m, B, e, S, hS, hE, h⟩ := h
  simp only [evS] at h
  refine tS_bind hS hE h fun d S1 m1 H1 v x1 hS1 hE1 r1 h1 eq1 => ?_
  exact h1 m1 H1 v .refl hS1 r1
theorem ev_iff (t : IE) (a b : ISs) (e : Env) (S : Store) : evS rn w (.iff t a b) e S = (testD (evE rn t e S)).go e fun c S1 => if c then evSs rn w a e S1 else evSs rn w b e S1 := by
  simp only [evS, testD]
  cases evE rn t e S with
  | ok d S1 =>
    simp only [R.bind_ok, R.go_ok]
    cases trueD d with
    | none => rfl
    | some b => cases b <;> rfl
  | ex c fs S1 => rfl
  | no => rfl
theorem ds_if {c : Expr} {a b : List Stmt} {t : IE} {i j : ISs} (hc : DT X cl W c (evE rn t)) (ha : DSs X cl W a (evSs rn w i)) (hb : DSs X cl W b (evSs rn w j)) : DS X cl W (.If c a b pos) (evS rn w (.iff t i j)) := PS.imp (ps_if hc ha hb) fun D σ H h => by
  obtain ⟨m, B, e, S, hS, hE, h⟩ := h
  rw [ev_iff] at h
  refine tS_bind hS hE h fun d S1 m1 H1 v x1 hS1 hE1 r1 h1 eq1 => ?_
  cases r1
  cases d with
  | true => exact ⟨m1, B, e, S1, hS1, hE1, h1⟩
  | false => exact ⟨m1, B, e, S1, hS1, hE1, h1⟩

/-! ### stores -/
theorem ds_set {i : Nat} {x : Str} {a : Expr} {j : IE} {pos' : Pos} (hN : X.N.Nodup) (hi : X.N[i]? = some x) (hx : Loc X.env.scope x) (ha : DE X cl W a (evE rn j)) (hs : swapsWith a (some (.Name x pos')) pos.line X.env = pure false) (hf : X.fn x = true ∨ X.env.scope.names.lookup x = some .local) :
    DS X cl W (.Assign [.Name x pos'] a pos) (evS rn w (.asg (.one i) j)) := PS.imp (ps_set hN hi hx ha hs hf) fun D σ H h => by
  obtain ⟨m, B, e, S, hS, hE, h⟩ := h
  simp only [evS, assignTg] at h
  refine tS_bind hS hE h fun d S1 m1 H1 v x1 hS1 hE1 r1 h1 eq1 => ?_
  exact h1 m1 H1 _ .refl hS1 (hE1.set r1 i)
/-- an end where the slot i is stored -/
theorem ds_aug {i : Nat} {x : Str} {a : Expr} {j : IE} {op : Operator} {ti : TIp} {f : List P → Option P} {pos' : Pos} (hN : X.N.Nodup) (hi : X.N[i]? = some x) (hx : Loc X.env.scope x) (ha : DE X cl W a (evE rn j)) (ho : PIp X op ti) (hv : OpV X.K (rOf2 ti) f) (hf : X.fn x = true ∨ X.env.scope.names.lookup x = some .local) :
    DS X cl W (.AugAssign (.Name x pos') op a pos) (evS rn w (.asg (.one i) (.op f (.cons (.v i) (.cons j .nil))))) := PS.imp (ps_aug hN hi hx ha ho hf) fun D σ H h => by
  obtain ⟨m, B, e, S, hS, hE, h⟩ := h
  simp only [evS, assignTg] at h
  rw [ev_op2] at h
  cases q : evE rn (.v i) e S with
  | ok d0 S0 =>
    have hd : e[i]? = some (some d0) ∧ S0 = S := by
      simp only [evE] at q
      cases z : e[i]? with
      | none => rw [z] at q; cases q
      | some o =>
        rw [z] at q
        cases o with
        | none => cases q
        | some d => cases q; exact ⟨rfl, rfl⟩
    obtain ⟨hd, rfl⟩ := hd
    rw [q, R.bind_ok] at h
    obtain ⟨v0, e0, r0⟩ := hE.at_ i d0 hd
    refine ⟨v0, e0, ?_⟩
    have go_bind : ∀ {α β : Type} (r : R α) (k : α → Store → R β) (k2 : β → Store → RS), (r.bind k).go e k2 = r.go e fun a S => (k a S).go e k2 := fun r k k2 => by cases r <;> rfl
    rw [go_bind] at h
    refine tS_bind hS hE h fun d S1 m1 H1 v x1 hS1 hE1 r1 h1 eq1 => ?_
    unfold opK at h1
    cases z : vals S1 [d0, d] with
    | none => rw [z] at h1; exact h1.elim
    | some xs =>
      rw [z] at h1
      dsimp only at h1
      cases z2 : f xs with
      | none => rw [z2] at h1; exact h1.elim
      | some y =>
        rw [z2] at h1
        refine hv H1 (Pr m1 B) xs [v0, v] y _ (fun a p => hS1.pr p) (RepDs.top (ds := [d0, d]) hS1 ⟨v0, [v], rfl, x1.repD r0, v, [], rfl, r1, rfl⟩ z) z2 (fun H' u s rp => ?_) v0 v rfl
        exact h1 m1 H' _ (.same s) (hS1.same s) (((Ext.same s).relE hE1).set (d := .p y) rp i)
  | ex c fs S0 =>
    simp only [evE] at q
    cases z : e[i]? with
    | none => rw [z] at q; cases q
    | some o => rw [z] at q; cases o <;> cases q
  | no => rw [q] at h; exact h.elim
/-- targets -/
def gD (K : PySem.W.Frag) (tg : Tg) : TG := fun v σ H Q => ∃ m B e S d e', RelS K m B S H ∧ RelE K m B e σ H ∧ RepD K H m B d v ∧ assignTg tg d S e = some e' ∧ ∀ σ', RelE K m B e' σ' H → Q σ' H
def DG (X : Cx) (target : Expr) (tg : Tg) : Prop := PG X target (gD X.K tg)
theorem PG.imp {X : Cx} {e : Expr} {t t' : TG} (h : PG X e t) (i : ∀ v σ H Q, t' v σ H Q → t v σ H Q) : PG X e t' := ⟨fun pins s σ H v u Q I r q => h.run pins s σ H v u Q I r (i v σ H Q q)⟩
theorem dg_name {i : Nat} {x : Str} (hN : X.N.Nodup) (hi : X.N[i]? = some x) (hx : Loc X.env.scope x) (hf : X.fn x = true ∨ X.env.scope.names.lookup x = some .local) : DG X (.Name x pos) (.one i) := PG.imp (pg_name hN hi hx hf) fun v σ H Q h => by
  obtain ⟨m, B, e, S, d, e', hS, hE, r, q, h⟩ := h
  cases q
  exact h _ (hE.set r i)
def gNames : List Nat → TGs
  | [] => gNil
  | i :: is => gCons (gName i) (gNames is)
theorem setMany_names {K : PySem.W.Frag} {m : Mp} {B : Addr → Prop} {H : Hp} {Q : L2.St → Hp → Prop} : ∀ {is : List Nat} {xs : List P} {vs : List V} {e e' : Env} {σ : L2.St}, Reps K H (Pr m B) xs vs → RelE K m B e σ H → setMany is xs e = some e' → (∀ σ', RelE K m B e' σ' H → Q σ' H) → gNames is vs σ H Q
  | [], [], vs, e, e', σ, r, hE, h, q => by
    cases h
    exact ⟨Reps.nil_iff.mp r, q σ hE⟩
  | [], x :: xs, vs, e, e', σ, r, hE, h, q => by cases h
  | i :: is, [], vs, e, e', σ, r, hE, h, q => by cases h
  | i :: is, x :: xs, vs, e, e', σ, r, hE, h, q => by
    obtain ⟨v, s, rfl, a, b⟩ := Reps.cons_iff.mp r
    exact ⟨v, s, rfl, setMany_names b (hE.set (d := .p x) a i) h q⟩
theorem setMany_len : ∀ {is : List Nat} {xs : List P} {e e' : Env}, setMany is xs e = some e' → is.length = xs.length
  | [], [], e, e', h => rfl
  | [], x :: xs, e, e', h => by cases h
  | i :: is, [], e, e', h => by cases h
  | i :: is, x :: xs, e, e', h => by simp [setMany_len (e := e.set i (some (.p x))) h]
theorem dg_tup {es : List Expr} {k : Nat} {is : List Nat} (hc : X.calm = true) (h : PGs X es (gNames is)) (hn : (assignEach es X.env).length = is.length) (hst : (assignEach es X.env).findIdx? (·.1) = none) : DG X (.Tuple es k pos) (.many is) :=
  PG.imp (pg_tup hc h hn hst) fun v σ H Q h => by
    obtain ⟨m, B, e, S, d, e', hS, hE, r, q, h⟩ := h
    cases d with
    | ref l => cases q
    | exc c fs => cases q
    | p x =>
      cases x with
      | tup xs =>
        obtain ⟨a, vs, e1, sq, rp⟩ := r
        exact ⟨a, vs, e1, sq, by rw [← rp.len, setMany_len q], setMany_names rp hE q h⟩
      | _ => cases q
/-- a target, to the letter -/
def gTg (K : PySem.W.Frag) : Tg → TG
  | .one i => gName i
  | .many is => gTup K is.length (gNames is)
def DGT (X : Cx) (target : Expr) (tg : Tg) : Prop := PG X target (gTg X.K tg)
theorem dgt_name {i : Nat} {x : Str} (hN : X.N.Nodup) (hi : X.N[i]? = some x) (hx : Loc X.env.scope x) (hf : X.fn x = true ∨ X.env.scope.names.lookup x = some .local) : DGT X (.Name x pos) (.one i) := pg_name hN hi hx hf
theorem dgt_tup {es : List Expr} {k : Nat} {is : List Nat} (hc : X.calm = true) (h : PGs X es (gNames is)) (hn : (assignEach es X.env).length = is.length) (hst : (assignEach es X.env).findIdx? (·.1) = none) : DGT X (.Tuple es k pos) (.many is) := pg_tup hc h hn hst
theorem ds_asg {tg a : Expr} {t : Tg} {i : IE} (ha : DE X cl W a (evE rn i)) (hg : DG X tg t) (hs : swapsWithSole [tg] a pos.line X.env = pure false) (hw : swappedStores [tg] a X.env = pure none) (h1 : (assignEach [tg] X.env).map (·.2) = [assign tg X.env]) :
    DS X cl W (.Assign [tg] a pos) (evS rn w (.asg t i)) := PS.imp (ps_asg ha hg hs hw h1) fun D σ H h => by
  obtain ⟨m, B, e, S, hS, hE, h⟩ := h
  simp only [evS] at h
  refine tS_bind hS hE h fun d S1 m1 H1 v x1 hS1 hE1 r1 h1 eq1 => ?_
  cases q : assignTg t d S1 e with
  | none => rw [q] at h1; exact h1.elim
  | some e' =>
    rw [q] at h1
    exact ⟨m1, B, e, S1, d, e', hS1, hE1, r1, q, fun σ' re => h1 m1 H1 σ' .refl hS1 re⟩
theorem ds_par {i j : Nat} {x y : Str} {a b : Expr} {is : IEs} {px py pt : Pos} {kt k2 pt2} (hc : X.calm = true) (hN : X.N.Nodup) (hi : X.N[i]? = some x) (hj : X.N[j]? = some y) (hij : i ≠ j)
    (hx : X.env.scope.names.lookup x = some .local) (hy : X.env.scope.names.lookup y = some .local) (ha : DA X cl W [a, b] (evEs rn is))
    (hw : swappedStores [.Tuple [.Name x px, .Name y py] kt pt] (.Tuple [a, b] k2 pt2) X.env = pure (some [x, y]))
    (hs : swapsWithSole [.Tuple [.Name x px, .Name y py] kt pt] (.Tuple [a, b] k2 pt2) pos.line X.env = pure false) :
    DS X cl W (.Assign [.Tuple [.Name x px, .Name y py] kt pt] (.Tuple [a, b] k2 pt2) pos) (evS rn w (.asg (.many [i, j]) (.pk tupP is))) := PS.imp (ps_par hc hN hi hj hij hx hy ha hw hs) fun D σ H h => by
  obtain ⟨m, B, e, S, hS, hE, h⟩ := h
  simp only [evS] at h
  rw [ev_pk] at h
  have go_bind : ∀ {α β : Type} (r : R α) (k : α → Store → R β) (k2 : β → Store → RS), (r.bind k).go e k2 = r.go e fun a S => (k a S).go e k2 := fun r k k2 => by cases r <;> rfl
  rw [go_bind] at h
  refine tS_bind hS hE h fun ds S1 m1 H1 vs x1 hS1 hE1 r1 h1 eq1 => ?_
  unfold pkK at h1
  cases q : pures ds with
  | none => rw [q] at h1; exact h1.elim
  | some xs =>
    rw [q] at h1
    simp only [tupP, R.go_ok, assignTg] at h1
    have rp := RepDs.pure r1 q
    match xs, rp, h1 with
    | [x1, x2], rp, h1 =>
      obtain ⟨v, s, e1, p1, p2⟩ := Reps.cons_iff.mp rp
      obtain ⟨v2, s2, e2, p3, p4⟩ := Reps.cons_iff.mp p2
      rw [Reps.nil_iff] at p4
      subst p4 e2
      refine ⟨v, v2, e1, ?_⟩
      simp only [setMany] at h1
      exact h1 m1 H1 _ .refl hS1 ((hE1.set (d := .p x1) p1 i).set (d := .p x2) p3 j)
    | [], rp, h1 => simp only [setMany] at h1; exact h1.elim
    | [_], rp, h1 => simp only [setMany] at h1; exact h1.elim
    | _ :: _ :: _ :: _, rp, h1 => simp only [setMany] at h1; exact h1.elim

/-! ### for, while -/
/-- an iterator goes along the items of what xs are -/
def Goes (K : PySem.W.Frag) (J : It) (xs : List P) (vs : List V) (items : List P) : Prop :=
  ∀ (i : Nat) (H : Hp) (pr : Addr → Prop), (∀ a, pr a → H a ≠ none) → RepTs K H pr xs vs →
    (∀ x, items[i]? = some x → J.go i H ∧ ∀ v H', J.yld i H v H' → Same H H' ∧ Rep K H' pr x v) ∧ (items.length ≤ i → J.stop i H)
def itemsK (f : List P → Option (List P)) (ds : List D) (S : Store) : R (List D × List P × List P) := match vals S ds with
    | some xs => (match f xs with
      | some items => .ok (ds, xs, items) S
      | none => .no)
    | none => .no
def rI_ (K : PySem.W.Frag) : Rp (List D × List P × List P) (List V × It) := fun H m B t u => RepDs K H m B t.1 u.1 ∧ Goes K u.2 t.2.1 u.1 t.2.2 ∧ t.2.2.length ≤ sizeLine
def tI (K : PySem.W.Frag) (cl : Cls_) (W : WX) (f : List P → Option (List P)) (g : Env → Store → R (List D)) : TI := fun σ H R => tG K cl W (rI_ K) (fun e S => (g e S).bind (itemsK f)) σ H fun u H' => R u.2 H'
def DI (X : Cx) (cl : Cls_) (W : WX) (tg iter : Expr) (f : List P → Option (List P)) (g : Env → Store → R (List D)) : Prop := PI X tg iter (tI X.K cl W f g)
theorem PI.imp {X : Cx} {tg e : Expr} {t t' : TI} (h : PI X tg e t) (i : ∀ σ H R, t' σ H R → t σ H R) : PI X tg e t' := ⟨fun pins s σ H R I q => h.run pins s σ H R I (i σ H R q)⟩
def forBody (rn : Rn) (w : Nat) (tg : Tg) (b : ISs) (x : P) (e1 : Env) (S2 : Store) : RS := match assignTg tg (.p x) S2 e1 with
          | some e2 => evSs rn w b e2 S2
          | none => .no
theorem ev_for (tg : Tg) (f : List P → Option (List P)) (es : IEs) (b : ISs) (e : Env) (S : Store) : evS rn w (.for_ tg f es b) e S = ((evEs rn es e S).bind (itemsK f)).go e fun t S1 => forL (fun S2 => decide (vals S2 t.1 = some t.2.1)) (forBody rn w tg b) t.2.2 e S1 := by
  simp only [evS]
  cases evEs rn es e S with
  | ok ds S1 =>
    simp only [R.bind_ok, R.go_ok]
    unfold itemsK
    cases q : vals S1 ds with
    | none => rfl
    | some xs =>
      dsimp only
      cases f xs with
      | none => rfl
      | some items => rfl
  | ex c fs S1 => rfl
  | no => rfl
theorem ds_for {tg iter : Expr} {body : List Stmt} {t : Tg} {f : List P → Option (List P)} {is : IEs} {b : ISs} (hp : PassesOwn (model X.prog X.w) X.A X.env X.xe) (hc : X.calm = true) (hi : DI X cl W tg iter f (evEs rn is)) (hg : DG X tg t) (hb : DSs X cl W body (evSs rn w b))
    (hs : ∀ x, foldedSetIterable iter X.env x = pure x) : DS X cl W (.For tg iter body [] pos) (evS rn w (.for_ t f is b)) := PS.imp (ps_for hp hc hi hg hb hs) fun D σ H h => by
  obtain ⟨m, B, e, S, hS, hE, h⟩ := h
  rw [ev_for] at h
  refine tS_bind (f := fun e S => (evEs rn is e S).bind (itemsK f)) hS hE h fun tt S1 m1 H1 u x1 hS1 hE1 r1 h1 eq1 => ?_
  obtain ⟨ds, xs, items⟩ := tt
  obtain ⟨vs, J⟩ := u
  obtain ⟨rds, go, _⟩ := r1
  dsimp only at rds go h1
  refine ⟨fun i k σ2 H2 => k = items.length - i ∧ i ≤ items.length ∧ ∃ m2 e2 S2, Ext m1 H1 m2 H2 ∧ RelS X.K m2 B S2 H2 ∧ RelE X.K m2 B e2 σ2 H2 ∧ EndS X.K cl W m2 B H2 (forL (fun S2 => decide (vals S2 ds = some xs)) (forBody rn w t b) (items.drop i) e2 S2) D,
    ⟨items.length, by simp, Nat.zero_le _, m1, e, S1, .refl, hS1, hE1, h1⟩, ?_⟩
  rintro i k σ2 H2 ⟨rfl, hle, m2, e2, S2, x2, hS2, hE2, h2⟩
  have hchk : vals S2 ds = some xs := by
    cases q : items.drop i with
    | nil =>
      rw [q] at h2
      unfold forL at h2
      by_cases c : vals S2 ds = some xs
      · exact c
      · rw [if_neg (by simp [c])] at h2; exact h2.elim
    | cons y ys =>
      rw [q] at h2
      unfold forL at h2
      by_cases c : vals S2 ds = some xs
      · exact c
      · rw [if_neg (by simp [c])] at h2; exact h2.elim
  have G := go i H2 (Pr m2 B) (fun a p => hS2.pr p) ((x2.repDs rds).top hS2 hchk)
  by_cases hlt : i < items.length
  · right
    have q : items.drop i = items[i] :: items.drop (i + 1) := List.drop_eq_getElem_cons hlt
    rw [q] at h2
    unfold forL at h2
    rw [if_pos (by simp [hchk])] at h2
    obtain ⟨g1, g2⟩ := G.1 items[i] (List.getElem?_eq_getElem hlt)
    refine ⟨g1, fun σ' H' => ∃ m3 e3 S3, Ext m1 H1 m3 H' ∧ RelS X.K m3 B S3 H' ∧ RelE X.K m3 B e3 σ' H' ∧ EndS X.K cl W m3 B H' (forL (fun S2 => decide (vals S2 ds = some xs)) (forBody rn w t b) (items.drop (i + 1)) e3 S3) D, fun σ' H' hN => ?_, fun x H' hy => ?_⟩
    · exact ⟨items.length - (i + 1), by omega, rfl, by omega, hN⟩
    · obtain ⟨sm, rx⟩ := g2 x H' hy
      have x3 : Ext m2 H2 m2 H' := .same sm
      have hS3 := hS2.same sm
      have hE3 := x3.relE hE2
      cases qa : assignTg t (.p items[i]) S2 e2 with
      | none =>
        simp only [forBody, qa] at h2
        exact h2.elim
      | some e3 =>
        simp only [forBody, qa] at h2
        refine ⟨m2, B, e2, S2, .p items[i], e3, hS3, hE3, rx, qa, fun σ3 hE4 => ⟨m2, B, e3, S2, hS3, hE4, ?_⟩⟩
        have h3 := EndS.ext x3 h2
        cases qb : evSs rn w b e3 S2 with
        | nx e4 S4 =>
          rw [qb] at h3
          exact fun m' H'' σ' x' rs re => ⟨m', e4, S4, (x2.trans x3).trans x', rs, re, EndS.ext x' h3⟩
        | ct e4 S4 =>
          rw [qb] at h3
          exact fun m' H'' σ' x' rs re => ⟨m', e4, S4, (x2.trans x3).trans x', rs, re, EndS.ext x' h3⟩
        | bk e4 S4 =>
          rw [qb] at h3
          exact h3
        | ret d S4 => rw [qb] at h3; exact h3
        | ex c fs e4 S4 => rw [qb] at h3; exact h3
        | no => rw [qb] at h3; exact h3
  · left
    have hi : i = items.length := by omega
    refine ⟨G.2 (by omega), ?_⟩
    rw [List.drop_eq_nil_of_le (by omega)] at h2
    unfold forL at h2
    rw [if_pos (by simp [hchk])] at h2
    exact h2 m2 H2 σ2 .refl hS2 hE2
theorem ev_whl (t : IE) (b : ISs) (n : Nat) (e : Env) (S : Store) : whlL (fun e S => evE rn t e S) (fun e S => evSs rn w b e S) (n + 1) e S = (testD (evE rn t e S)).go e fun c S1 => if c then
      (match evSs rn w b e S1 with
        | .nx e1 S2 => whlL (fun e S => evE rn t e S) (fun e S => evSs rn w b e S) n e1 S2
        | .ct e1 S2 => whlL (fun e S => evE rn t e S) (fun e S => evSs rn w b e S) n e1 S2
        | .bk e1 S2 => .nx e1 S2
        | .ret d S2 => .ret d S2
        | .ex c fs e1 S2 => .ex c fs e1 S2
        | .no => .no) else .nx e S1 := by
  simp only [testD]
  rw [whlL]
  cases evE rn t e S with
  | ok d S1 =>
    simp only [R.bind_ok, R.go_ok]
    cases trueD d with
    | none => rfl
    | some c => cases c <;> rfl
  | ex c fs S1 => rfl
  | no => rfl
theorem ds_while {c : Expr} {body : List Stmt} {t : IE} {b : ISs} (hp : PassesOwn (model X.prog X.w) X.A X.env X.xe) (hc : DT X cl W c (evE rn t)) (hb : DSs X cl W body (evSs rn w b)) : DS X cl W (.While c body [] pos) (evS rn w (.whl t b)) := PS.imp (ps_while hp hc hb) fun D σ H h => by
  obtain ⟨m, B, e, S, hS, hE, h⟩ := h
  simp only [evS] at h
  refine ⟨fun k σ2 H2 => ∃ m2 e2 S2, RelS X.K m2 B S2 H2 ∧ RelE X.K m2 B e2 σ2 H2 ∧ EndS X.K cl W m2 B H2 (whlL (fun e S => evE rn t e S) (fun e S => evSs rn w b e S) k e2 S2) D, ⟨w, m, e, S, hS, hE, h⟩, ?_⟩
  rintro k σ2 H2 ⟨m2, e2, S2, hS2, hE2, h2⟩
  cases k with
  | zero => exact h2.elim
  | succ k =>
    rw [ev_whl] at h2
    refine tS_bind hS2 hE2 h2 fun d S3 m3 H3 v x3 hS3 hE3 r3 h3 eq3 => ?_
    cases r3
    cases d with
    | false =>
      rw [if_neg Bool.false_ne_true] at h3 ⊢
      exact h3 m3 H3 σ2 .refl hS3 hE3
    | true =>
      rw [if_pos rfl] at h3 ⊢
      refine ⟨fun σ' H' => ∃ m4 e4 S4, RelS X.K m4 B S4 H' ∧ RelE X.K m4 B e4 σ' H' ∧ EndS X.K cl W m4 B H' (whlL (fun e S => evE rn t e S) (fun e S => evSs rn w b e S) k e4 S4) D, fun σ' H' hN => ⟨k, Nat.lt_succ_self k, hN⟩, m3, B, e2, S3, hS3, hE3, ?_⟩
      cases qb : evSs rn w b e2 S3 with
      | nx e4 S4 =>
        rw [qb] at h3
        exact fun m' H'' σ' x' rs re => ⟨m', e4, S4, rs, re, EndS.ext x' h3⟩
      | ct e4 S4 =>
        rw [qb] at h3
        exact fun m' H'' σ' x' rs re => ⟨m', e4, S4, rs, re, EndS.ext x' h3⟩
      | bk e4 S4 => rw [qb] at h3; exact h3
      | ret d S4 => rw [qb] at h3; exact h3
      | ex c fs e4 S4 => rw [qb] at h3; exact h3
      | no => rw [qb] at h3; exact h3
end
end DL

set_option maxRecDepth 100000
set_option maxHeartbeats 1000000
/-! DC: comprehensions; a def by its body -/
namespace DL
open PySem PySem.Spec PyProof.Rows L2
section
variable {K : PySem.W.Frag} {m m1 : Mp} {B : Addr → Prop} {σ : L2.St} {H H1 : Hp} {S : Store} {e : Env} {p : Addr}
theorem Rep.ban {pr : Addr → Prop} (np : H p = none) {x : P} {v : V} (h : Rep K H pr x v) : Rep K H (fun a => pr a ∨ a = p) x v := h.mono (fun a u n rd => ⟨rd, fun z => z.elim n fun z => by
  rw [z, np] at rd
  cases rd⟩) fun _ _ e => e
theorem RepD.ban (np : H p = none) : ∀ {d : D} {v : V}, RepD K H m B d v → RepD K H m (fun a => B a ∨ a = p) d v
  | .p x, v, h => (Rep.ban np h).less fun a z => z.elim (fun z => .inl (.inl z)) fun z => z.elim (fun z => .inl (.inr z)) .inr
  | .ref l, v, h => h
  | .exc c fs, v, h => h
theorem RepDs.ban (np : H p = none) : ∀ {ds : List D} {vs : List V}, RepDs K H m B ds vs → RepDs K H m (fun a => B a ∨ a = p) ds vs
  | [], vs, h => h
  | d :: r, vs, h => by
    obtain ⟨v, s, rfl, a, b⟩ := h
    exact ⟨v, s, rfl, a.ban np, RepDs.ban np b⟩
theorem RelE.ban (h : RelE K m B e σ H) (np : H p = none) : RelE K m (fun a => B a ∨ a = p) e σ H := ⟨h.len, fun i d q => by
  obtain ⟨v, q1, q2⟩ := h.at_ i d q
  exact ⟨v, q1, q2.ban np⟩⟩
/-- what is banned may change -/
theorem mono_ban {pr : Addr → Prop} {xs ws : List V} (hp : pr p) (e : H p = some (.lst xs)) : (∀ a u, ¬ pr a → H a = some u → (upd H p (.lst ws)) a = some u ∧ ¬ pr a) ∧ ∀ a ys, Rd H a (.tup ys) → Rd (upd H p (.lst ws)) a (.tup ys) := by
  have other : ∀ {a u}, a ≠ p → Rd H a u → Rd (upd H p (.lst ws)) a u := fun {a u} n r => by
    rcases r with r | ⟨o, r⟩
    · exact .inl (by rw [upd_ne n]; exact r)
    · exact .inr ⟨o, by rw [upd_ne n]; exact r⟩
  refine ⟨fun a u n r => ⟨(upd_ne (fun z => n (by rw [z]; exact hp))).trans r, n⟩, fun a ys r => other (fun z => ?_) r⟩
  subst z
  rcases r with r | ⟨o, r⟩ <;> rw [e] at r <;> cases r
theorem RelS.upd_ban {xs ws : List V} (r : RelS K m B S H) (hp : B p) (e : H p = some (.lst xs)) : RelS K m B S (upd H p (.lst ws)) where
  len := r.len
  inj := r.inj
  ob := fun i a ea => by
    obtain ⟨h1, h2⟩ := mono_ban (ws := ws) (pr := Pr m B) (.inr hp) e
    have hne : a ≠ p := fun z => (r.bd p hp).2 (z ▸ List.mem_of_getElem? ea)
    obtain ⟨o, q, q2⟩ := r.ob i a ea
    refine ⟨o, q, ?_⟩
    have hds : ∀ {ds : List D} {vs : List V}, RepDs K H m B ds vs → RepDs K (upd H p (.lst ws)) m B ds vs := by
      intro ds
      induction ds with
      | nil => exact fun r => r
      | cons d ds ih =>
        intro vs r
        obtain ⟨v, s, rfl, a, b⟩ := r
        refine ⟨v, s, rfl, ?_, ih b⟩
        cases d with
        | p x => exact Rep.mono h1 h2 _ _ a
        | ref l => exact a
        | exc c fs => exact a
    cases o with
    | lst xs =>
      obtain ⟨vs, e, h⟩ := q2
      exact ⟨vs, by rw [upd_ne hne]; exact e, Reps.mono h1 h2 _ _ h⟩
    | dic kvs =>
      obtain ⟨vs, u, e, d, h⟩ := q2
      exact ⟨vs, u, by rw [upd_ne hne]; exact e, d, Reps.mono h1 h2 _ _ h⟩
    | dir kvs =>
      obtain ⟨vs, u, e, d, h⟩ := q2
      exact ⟨vs, u, by rw [upd_ne hne]; exact e, d, hds h⟩
    | dead => exact q2.elim
  dead := r.dead
  bd := fun a z => by
    refine ⟨?_, (r.bd a z).2⟩
    by_cases h : a = p
    · subst h
      rw [upd_same]
      exact fun z => nomatch z
    · rw [upd_ne h]
      exact (r.bd a z).1
theorem Ext.upd_new {o : HO} (x : Ext m H m1 H1) (np : H p = none) (h1 : H1 p ≠ none) : Ext m H m1 (upd H1 p o) where
  len := x.len
  keep := x.keep
  obj := fun a u n e => by
    have : a ≠ p := fun z => by rw [z, np] at e; cases e
    rw [upd_ne this]
    exact x.obj a u n e
  tup := fun a xs r => by
    have : a ≠ p := fun z => Rd.ne r (z ▸ np)
    rcases x.tup a xs r with r | ⟨o, r⟩
    · exact .inl (by rw [upd_ne this]; exact r)
    · exact .inr ⟨o, by rw [upd_ne this]; exact r⟩
  dom := fun a e => by
    have : a ≠ p := fun z => e (z ▸ np)
    rw [upd_ne this]
    exact x.dom a e
theorem wipe_len (σ : L2.St) (vs : List Nat) : (L2.wipe σ vs).length = σ.length := L2.wipe_length σ vs
theorem wipe_set : ∀ {vs : List Nat} {σ : L2.St} {i : Nat} {y : Option V}, i ∈ vs → L2.wipe (σ.set i y) vs = L2.wipe σ vs
  | v :: vs, σ, i, y, h => by
    by_cases hv : i ∈ vs
    · show (L2.wipe (σ.set i y) vs).set v none = (L2.wipe σ vs).set v none
      rw [wipe_set hv]
    · have e : i = v := (List.mem_cons.mp h).resolve_right hv
      subst e
      show (L2.wipe (σ.set i y) vs).set i none = (L2.wipe σ vs).set i none
      have out : ∀ {vs : List Nat} {σ : L2.St}, i ∉ vs → L2.wipe (σ.set i y) vs = (L2.wipe σ vs).set i y := by
        intro vs
        induction vs with
        | nil => intro σ _; rfl
        | cons u us ih =>
          intro σ hn
          show (L2.wipe (σ.set i y) us).set u none = ((L2.wipe σ us).set u none).set i y
          rw [ih (fun z => hn (List.mem_cons_of_mem _ z)), List.set_comm _ _ (by intro z; apply hn; simp [z])]
      rw [out hv, List.set_set]
theorem wipe_wipe : ∀ {vs us : List Nat} {σ : L2.St}, (∀ i ∈ us, i ∈ vs) → L2.wipe (L2.wipe σ us) vs = L2.wipe σ vs
  | vs, [], σ, h => rfl
  | vs, u :: us, σ, h => by
    show L2.wipe ((L2.wipe σ us).set u none) vs = _
    rw [wipe_set (h u List.mem_cons_self), wipe_wipe fun i hi => h i (List.mem_cons_of_mem _ hi)]
theorem gNames_wipe {vs : List Nat} {Q : L2.St → Hp → Prop} : ∀ {is : List Nat} {xs : List P} {ws : List V} {e e' : Env} {σ : L2.St}, (∀ i ∈ is, i ∈ vs) → Reps K H (Pr m B) xs ws → RelE K m B e σ H → setMany is xs e = some e' → (∀ σ', RelE K m B e' σ' H → L2.wipe σ' vs = L2.wipe σ vs → Q σ' H) → gNames is ws σ H Q
  | [], [], ws, e, e', σ, hi, r, hE, h, q => by
    cases h
    exact ⟨Reps.nil_iff.mp r, q σ hE rfl⟩
  | [], x :: xs, ws, e, e', σ, hi, r, hE, h, q => by cases h
  | i :: is, [], ws, e, e', σ, hi, r, hE, h, q => by cases h
  | i :: is, x :: xs, ws, e, e', σ, hi, r, hE, h, q => by
    obtain ⟨v, s, rfl, a, b⟩ := Reps.cons_iff.mp r
    refine ⟨v, s, rfl, gNames_wipe (fun j hj => hi j (List.mem_cons_of_mem _ hj)) b (hE.set (d := .p x) a i) h fun σ' re ew => q σ' re ?_⟩
    rw [ew, wipe_set (hi i List.mem_cons_self)]
def Tg.slots : Tg → List Nat
  | .one i => [i]
  | .many is => is
theorem gTg_wipe {vs : List Nat} {Q : L2.St → Hp → Prop} {tg : Tg} {x : P} {v : V} {e e' : Env} {σ : L2.St} (hi : ∀ i ∈ tg.slots, i ∈ vs) (r : Rep K H (Pr m B) x v) (hE : RelE K m B e σ H) (h : assignTg tg (.p x) S e = some e') (q : ∀ σ', RelE K m B e' σ' H → L2.wipe σ' vs = L2.wipe σ vs → Q σ' H) : gTg K tg v σ H Q := by
  cases tg with
  | one i =>
    cases h
    exact q _ (hE.set (d := .p x) r i) (wipe_set (hi i List.mem_cons_self))
  | many is =>
    cases x with
    | tup xs =>
      obtain ⟨a, ws, e1, sq, rp⟩ := r
      exact ⟨a, ws, e1, sq, by rw [← rp.len, setMany_len h], gNames_wipe hi rp hE h q⟩
    | _ => cases h
end
def W0 : WX := fun _ _ _ _ => False
section
variable {X : Cx} {cl : Cls_} {W : WX} {rn : Rn} {w : Nat} {pos : Pos}
def cpStep (rn : Rn) (vs : List Nat) (tg : Tg) (cd elt : IE) (e : Env) (x : P) (S2 : Store) : R (Option P) :=
          match assignTg tg (.p x) S2 (wipeD e vs) with
          | some e1 => (evE rn cd e1 S2).bind fun t S3 =>
            (match trueD t with
            | some true => (evE rn elt e1 S3).bind fun d S4 =>
              (match d with
              | .p y => .ok (some y) S4
              | _ => .no)
            | some false => .ok none S3
            | none => .no)
          | none => .no
theorem ev_comp (vs : List Nat) (tg : Tg) (f : List P → Option (List P)) (es : IEs) (cd elt : IE) (e : Env) (S : Store) : evE rn (.comp vs tg f es cd elt) e S = ((evEs rn es e S).bind (itemsK f)).bind fun t S1 =>
    (compL (fun S2 => decide (vals S2 t.1 = some t.2.1)) (cpStep rn vs tg cd elt e) t.2.2 S1).bind fun ys S2 => .ok (.p (.lst ys)) S2 := by
  simp only [evE]
  cases evEs rn es e S with
  | ok ds S1 =>
    simp only [R.bind_ok]
    unfold itemsK
    cases q : vals S1 ds with
    | none => rfl
    | some xs =>
      dsimp only
      cases f xs with
      | none => rfl
      | some items => rfl
  | ex c fs S1 => rfl
  | no => rfl
/-- the comprehension's reading -/
theorem tLc_of {K : PySem.W.Frag} {vs : List Nat} {tg : Tg} {f : List P → Option (List P)} {is : IEs} {cd elt : IE} (hi : ∀ i ∈ tg.slots, i ∈ vs) {σ : L2.St} {H : Hp} {Q : VK} (h : tF K cl W (evE rn (.comp vs tg f is cd elt)) σ H Q) :
    tLc (tI K cl W f (evEs rn is)) (gTg K tg) (tG K cl W0 rB fun e S => testD (evE rn cd e S)) (tG K cl W0 (rD K) (evE rn elt)) vs σ H Q := by
  obtain ⟨m, B, e, S, hS, hE, h⟩ := of_tF h
  rw [ev_comp] at h
  refine tG_bindF (f := fun e S => (evEs rn is e S).bind (itemsK f)) hS hE h fun tt S1 m1 H1 u x1 hS1 hE1 r1 h1 eq1 => ?_
  obtain ⟨ds, xs, items⟩ := tt
  obtain ⟨ws, J⟩ := u
  obtain ⟨rds, go, hlen⟩ := r1
  dsimp only at rds go h1 hlen
  intro D nD
  have hE1' : RelE K m1 (fun a => B a ∨ a = D) e σ H1 := hE1.ban nD
  have hDm1 : some D ∉ m1 := fun z => hS1.live z nD
  refine ⟨fun i k Hc => k = items.length - i ∧ i ≤ items.length ∧ ∃ m2 S2 acc ys, Ext m1 H1 m2 Hc ∧ RelS K m2 (fun a => B a ∨ a = D) S2 Hc ∧ Hc D = some (.lst acc) ∧ Reps K Hc (Pr m2 fun a => B a ∨ a = D) ys acc ∧ ys.length ≤ i ∧
      EndF K cl W m1 B σ H1 ((compL (fun S2 => decide (vals S2 ds = some xs)) (cpStep rn vs tg cd elt e) (items.drop i) S2).bind fun zs S' => .ok (.p (.lst (ys ++ zs))) S') Q,
    ⟨items.length, by simp, Nat.zero_le _, m1, S1, [], [], .same (Same.new nD), hS1.ban nD (Same.new nD) (by rw [upd_same]; exact fun z => nomatch z), upd_same, Reps.nil_iff.mpr rfl, Nat.le_refl _, h1⟩, ?_⟩
  rintro i k Hc ⟨rfl, hle, m2, S2, acc, ys, x2, hS2, eD, rys, hys, h2⟩
  have rds2 : RepDs K Hc m2 B ds ws := x2.repDs rds
  have hS2' : RelS K m2 B S2 Hc := hS2.less fun a z => .inl z
  have rds3 : RepDs K Hc m2 (fun a => B a ∨ a = D) ds ws := x2.repDs (RepDs.ban nD rds)
  have hchk : vals S2 ds = some xs := by
    cases q : items.drop i with
    | nil =>
      rw [q] at h2
      unfold compL at h2
      by_cases c : vals S2 ds = some xs
      · exact c
      · rw [if_neg (by simp [c])] at h2; exact h2.elim
    | cons y zs =>
      rw [q] at h2
      unfold compL at h2
      by_cases c : vals S2 ds = some xs
      · exact c
      · rw [if_neg (by simp [c])] at h2; exact h2.elim
  have G := go i Hc (Pr m2 fun a => B a ∨ a = D) (fun a p => hS2.pr p) (rds3.top hS2 hchk)
  by_cases hlt : i < items.length
  · right
    have q : items.drop i = items[i] :: items.drop (i + 1) := List.drop_eq_getElem_cons hlt
    rw [q] at h2
    unfold compL at h2
    rw [if_pos (by simp [hchk])] at h2
    obtain ⟨g1, g2⟩ := G.1 items[i] (List.getElem?_eq_getElem hlt)
    refine ⟨g1, fun H' => ∃ m3 S3 acc ys, Ext m1 H1 m3 H' ∧ RelS K m3 (fun a => B a ∨ a = D) S3 H' ∧ H' D = some (.lst acc) ∧ Reps K H' (Pr m3 fun a => B a ∨ a = D) ys acc ∧ ys.length ≤ i + 1 ∧
      EndF K cl W m1 B σ H1 ((compL (fun S2 => decide (vals S2 ds = some xs)) (cpStep rn vs tg cd elt e) (items.drop (i + 1)) S3).bind fun zs S' => .ok (.p (.lst (ys ++ zs))) S') Q, fun H' hN => ⟨items.length - (i + 1), by omega, rfl, by omega, hN⟩, fun x H' hy => ?_⟩
    obtain ⟨sm, rx⟩ := g2 x H' hy
    have x3 : Ext m2 Hc m2 H' := .same sm
    have hS3 := hS2.same sm
    have hE3 : RelE K m2 (fun a => B a ∨ a = D) e σ H' := x3.relE (x2.relE hE1')
    cases qs : cpStep rn vs tg cd elt e items[i] S2 with
    | ex c fs S3 => rw [qs] at h2; exact h2.elim
    | no => rw [qs] at h2; exact h2.elim
    | ok o S3 =>
      rw [qs] at h2
      dsimp only at h2
      rw [R.bind_assoc] at h2
      simp only [R.bind_ok] at h2
      unfold cpStep at qs
      cases qa : assignTg tg (.p items[i]) S2 (wipeD e vs) with
      | none => rw [qa] at qs; cases qs
      | some e1 =>
        rw [qa] at qs
        dsimp only at qs
        refine gTg_wipe (vs := vs) hi rx (hE3.wipe vs) qa fun σ2 hE4 ew => ⟨by rw [ew, wipe_wipe fun i h => h], m2, _, e1, S2, hS3, hE4, ?_⟩
        cases qc : evE rn cd e1 S2 with
        | ex c fs S4 => rw [qc] at qs; cases qs
        | no => rw [qc] at qs; cases qs
        | ok t S4 =>
          rw [qc, R.bind_ok] at qs
          simp only [testD, qc, R.bind_ok]
          cases qt : trueD t with
          | none => rw [qt] at qs; cases qs
          | some b =>
            rw [qt] at qs
            intro m4 H4 b' x4 hS4 rb
            cases rb
            have mem4 : some D ∉ m4 := (hS4.bd D (.inr rfl)).2
            cases b with
            | false =>
              cases qs
              rw [if_neg Bool.false_ne_true]
              refine ⟨m4, _, acc, ys, (x2.trans x3).trans x4, hS4, (x4.obj D _ (hS2.bd D (.inr rfl)).2 (sm _ _ eD)).1, x4.reps (x3.reps rys), by omega, h2⟩
            | true =>
              rw [if_pos rfl]
              dsimp only at qs
              refine ⟨m4, _, e1, S4, hS4, x4.relE hE4, ?_⟩
              cases qe : evE rn elt e1 S4 with
              | ex c fs S5 => rw [qe] at qs; cases qs
              | no => rw [qe] at qs; cases qs
              | ok d S5 =>
                rw [qe, R.bind_ok] at qs
                cases d with
                | ref l => cases qs
                | exc c fs => cases qs
                | p y =>
                  cases qs
                  intro m5 H5 v x5 hS5 rv
                  have eD5 : H5 D = some (.lst acc) := (x5.obj D _ mem4 (x4.obj D _ (hS2.bd D (.inr rfl)).2 (sm _ _ eD)).1).1
                  have hacc : ys.length = acc.length := rys.len
                  refine ⟨acc, eD5, by omega, m5, S3, acc ++ [v], ys ++ [y], ?_, hS5.upd_ban (.inr rfl) eD5, upd_same, ?_, by simp; omega, ?_⟩
                  · exact (((x2.trans x3).trans x4).trans x5).upd_new nD (by rw [eD5]; exact fun z => nomatch z)
                  · obtain ⟨g1, g2⟩ := mono_ban (H := H5) (p := D) (ws := acc ++ [v]) (pr := Pr m5 fun a => B a ∨ a = D) (.inr (.inr rfl)) eD5
                    exact Reps.append (Reps.mono g1 g2 _ _ (x5.reps (x4.reps (x3.reps rys)))) (Reps.one (Rep.mono g1 g2 _ _ rv))
                  · simp only [List.append_assoc, List.singleton_append]
                    exact h2
  · left
    refine ⟨G.2 (by omega), ?_⟩
    rw [List.drop_eq_nil_of_le (by omega)] at h2
    unfold compL at h2
    rw [if_pos (by simp [hchk]), R.bind_ok, List.append_nil] at h2
    exact h2 m2 Hc D acc x2 nD hS2 eD rys
end
end DL

set_option maxRecDepth 100000
set_option maxHeartbeats 1000000
/-! DF: what is walked; comprehensions as expressions and statements; a def by its body -/
namespace DL
open PySem PySem.Spec PyProof.Rows L2
/-! ### what is walked -/
theorem getElem?_toArray' {x : List Nat} {i : Nat} : (strV x).cps[i]? = x[i]? := by simp [strV]
theorem goes_any {K : PySem.W.Frag} {J : It} {v : V} {xs items : List P} (hf : itemsP xs = some items)
    (h : (∃ a, v = .ref a ∧ J = Itl K a ∧ ∃ ys, xs = [.lst ys]) ∨ (∃ a, v = .ref a ∧ J = Itt K a ∧ ∃ ys, xs = [.tup ys]) ∨ (∃ x, v = .str (strV x) ∧ J = Its (strV x) ∧ xs = [.str x] ∧ okS x)) : Goes K J xs [v] items := by
  intro i H pr hp hr
  rcases h with ⟨a, rfl, rfl, ys, rfl⟩ | ⟨a, rfl, rfl, ys, rfl⟩ | ⟨x, rfl, rfl, rfl, hx⟩
  · cases hf
    obtain ⟨w, s, e1, ⟨b, vs, e2, rd, rp⟩, e3⟩ := hr
    cases e1
    cases e2
    have hq : SqL K H a vs := .of rd
    refine ⟨fun x ex => ?_, fun hi => ⟨vs, hq, by rw [← rp.len]; exact hi⟩⟩
    obtain ⟨u, eu, ru⟩ := rp.get ex
    refine ⟨⟨vs, u, hq, eu⟩, fun v' H' y => ?_⟩
    obtain ⟨rfl, hy⟩ := y
    have e := hy vs hq
    rw [eu] at e
    cases e
    exact ⟨Same.refl _, ru⟩
  · cases hf
    obtain ⟨w, s, e1, hr1, e3⟩ := hr
    cases e1
    obtain ⟨b, vs, e2, hq, rp⟩ := (show Rep K H pr (.tup _) (.ref a) from hr1)
    cases e2
    refine ⟨fun x ex => ?_, fun hi => ⟨vs, hq, by rw [← rp.len]; exact hi⟩⟩
    obtain ⟨u, eu, ru⟩ := rp.get ex
    refine ⟨⟨vs, u, hq, eu⟩, fun v' H' y => ?_⟩
    obtain ⟨rfl, hy⟩ := y
    have e := hy vs hq
    rw [eu] at e
    cases e
    exact ⟨Same.refl _, ru⟩
  · cases hf
    have hsz : (strV x).cps.size = x.length := by simp [strV]
    refine ⟨fun y ey => ?_, fun hi => ?_⟩
    · rw [List.getElem?_map] at ey
      cases q : x[i]? with
      | none => rw [q] at ey; cases ey
      | some c =>
        rw [q] at ey
        cases ey
        have hi := (List.getElem?_eq_some_iff.mp q).1
        refine ⟨by show i < (strV x).cps.size; omega, fun v' H' y => ?_⟩
        obtain ⟨rfl, c', ec, rfl⟩ := y
        rw [getElem?_toArray', q] at ec
        cases ec
        exact ⟨Same.refl _, ⟨rfl, by show 1 ≤ sizeLine; rw [sizeLine_eq]; decide, fun d hd => hx.2 d (by rw [List.mem_singleton.mp hd]; exact List.mem_of_getElem? q)⟩⟩
    · show (strV x).cps.size ≤ i
      rw [List.length_map] at hi
      omega
section
variable {X : Cx} {cl : Cls_} {W : WX} {rn : Rn} {w : Nat} {pos : Pos}
/-- an expression that is walked: a list, a tuple, a text -/
def iAny (K : PySem.W.Frag) (tl : TE) : TI := fun σ H R => tl σ H fun x H1 =>
  (∃ a, x = .ref a ∧ (∃ xs, SqL K H1 a xs) ∧ ((∀ xs, SqL K H1 a xs → xs.length ≤ sizeLine) → R (Itl K a) H1)) ∨
  (∃ a, x = .ref a ∧ (∃ xs, SqT K H1 a xs) ∧ ((∀ xs, SqT K H1 a xs → xs.length ≤ sizeLine) → R (Itt K a) H1)) ∨
  (∃ z, x = .str z ∧ R (Its z) H1)
theorem pi_any {tg l : Expr} {tl : TE} (hl : PE X l tl) : PI X tg l (iAny X.K tl) := by
  refine ⟨fun pins s σ H R I h => ?_⟩
  refine thn (hl.run pins s σ H _ I h) fun v s1 ⟨x, H1, I1, r1, q1⟩ => ?_
  rcases q1 with ⟨a, e, ⟨xs, hq⟩, q⟩ | ⟨a, e, ⟨xs, hq⟩, q⟩ | ⟨z, e, q⟩
  · subst e
    cases r1
    obtain ⟨its, rv, p, hz⟩ := I1.list hq
    have q := q fun ys hy => by rw [I1.list_inj hy hq]; exact hz
    refine wpAny_pyIter_list p.isList ?_
    refine ⟨s1.heap.objs.size, [s1.heap.objs.size], _, _, H1, rfl, I1.kept (t' := s1.toks) fun b o e => Heap.get?_push_of_some _ e, turn_list a _, ⟨_, Heap.get?_push_size _ rfl, rfl, rfl⟩, fun b hb => ?_, q⟩
    have e : b = s1.heap.objs.size := by simpa using hb
    subst e
    exact I1.fpOk (Nat.le_refl _) (I1.hok.fresh (Nat.le_refl _))
  · subst e
    cases r1
    obtain ⟨its, rv, p, hz⟩ := I1.tuple hq
    have q := q fun ys hy => by rw [I1.tuple_inj hy hq]; exact hz
    refine wpAny_pyIter_tuple (show s1.heap.IsTuple a its.toArray from p) ?_
    refine ⟨s1.heap.objs.size, [s1.heap.objs.size], _, _, H1, rfl, I1.kept (t' := s1.toks) fun b o e => Heap.get?_push_of_some _ e, turn_tuple a _, ⟨_, Heap.get?_push_size _ rfl, rfl, rfl⟩, fun b hb => ?_, q⟩
    have e : b = s1.heap.objs.size := by simpa using hb
    subst e
    exact I1.fpOk (Nat.le_refl _) (I1.hok.fresh (Nat.le_refl _))
  · subst e
    obtain ⟨t, rfl⟩ := r1
    cases ha : z.cps.all (· < 128)
    · exact wpAny_pyIter_wide ha (pi_one (tk := s1.toks) I1 _ (turn_str _ z t "str_iterator" (.inr rfl)) ⟨_, Heap.get?_push_size _ rfl, rfl, rfl⟩ q)
    · exact wpAny_pyIter_ascii ha (pi_one (tk := s1.toks) I1 _ (turn_str _ z t "str_ascii_iterator" (.inl rfl)) ⟨_, Heap.get?_push_size _ rfl, rfl, rfl⟩ q)
theorem items_open {K : PySem.W.Frag} {α β : Type} {rep : Rp α β} {m : Mp} {B : Addr → Prop} {σ : L2.St} {H : Hp} {S : Store} {ds : List D} {f : List P → Option (List P)} {Q : (List V × It) → Hp → Prop} (h : EndG K cl W (rI_ K) m B σ H (itemsK f ds S) Q) :
    ∃ xs items, vals S ds = some xs ∧ f xs = some items ∧ EndG K cl W (rI_ K) m B σ H (.ok (ds, xs, items) S) Q := by
  unfold itemsK at h
  cases q : vals S ds with
  | none => rw [q] at h; exact h.elim
  | some xs =>
    rw [q] at h
    dsimp only at h
    cases q2 : f xs with
    | none => rw [q2] at h; exact h.elim
    | some items =>
      rw [q2] at h
      exact ⟨xs, items, rfl, q2, h⟩
theorem di_any {tg l : Expr} {i : IE} (hl : DE X cl W l (evE rn i)) : DI X cl W tg l itemsP (evEs rn (.cons i .nil)) := PI.imp (pi_any hl) fun σ H Rr h => by
  obtain ⟨m, B, e, S, hS, hE, h⟩ := h
  have h : EndG X.K cl W (rI_ X.K) m B σ H ((evEs rn (.cons i .nil) e S).bind (itemsK itemsP)) fun u H' => Rr u.2 H' := h
  simp only [evEs, R.bind_assoc, R.bind_ok] at h
  refine tG_bind hS hE h fun d S1 m1 H1 v x1 hS1 hE1 r1 h1 eq1 => ?_
  obtain ⟨xs, items, e1, e2, h2⟩ := items_open (rep := rD X.K) h1
  have rds : RepDs X.K H1 m1 B [d] [v] := ⟨v, [], rfl, r1, rfl⟩
  have rt := rds.top hS1 e1
  unfold itemsP at e2
  split at e2
  · rename_i ys
    cases e2
    obtain ⟨w', s', e3, ⟨a, vs, e4, rd, rp⟩, e5⟩ := rt
    cases e3
    subst e4
    refine .inl ⟨a, rfl, ⟨vs, .of rd⟩, fun hz => ?_⟩
    exact h2 m1 H1 ([.ref a], Itl X.K a) .refl hS1 ⟨rds, goes_any rfl (.inl ⟨a, rfl, rfl, _, rfl⟩), by rw [rp.len]; exact hz vs (.of rd)⟩
  · rename_i ys
    cases e2
    obtain ⟨w', s', e3, rt1, e5⟩ := rt
    obtain ⟨a, vs, e4, sq, rp⟩ := (show Rep X.K H1 (Pr m1 B) (.tup _) w' from rt1)
    cases e3
    subst e4
    refine .inr (.inl ⟨a, rfl, ⟨vs, sq⟩, fun hz => ?_⟩)
    exact h2 m1 H1 ([.ref a], Itt X.K a) .refl hS1 ⟨rds, goes_any rfl (.inr (.inl ⟨a, rfl, rfl, _, rfl⟩)), (by show items.length ≤ sizeLine; rw [rp.len]; exact hz vs sq)⟩
  · rename_i x
    cases e2
    obtain ⟨w', s', e3, ⟨e4, hx⟩, e5⟩ := rt
    cases e3
    subst e4
    refine .inr (.inr ⟨strV x, rfl, ?_⟩)
    exact h2 m1 H1 ([.str (strV x)], Its (strV x)) .refl hS1 ⟨rds, goes_any rfl (.inr (.inr ⟨x, rfl, rfl, rfl, hx⟩)), by rw [List.length_map]; exact hx.1⟩
  · cases e2
theorem goes_range {K : PySem.W.Frag} {lo : Int} {n : Nat} {xs : List P} {vs : List V} : Goes K (Itr lo n) xs vs (rangeL lo n) := by
  intro i H pr hp hr
  refine ⟨fun x ex => ?_, fun hi => by
    have : n ≤ i := by simpa [rangeL] using hi
    exact this⟩
  unfold rangeL at ex
  rw [List.getElem?_map] at ex
  cases q : (List.range n)[i]? with
  | none => rw [q] at ex; cases ex
  | some k =>
    rw [q] at ex
    cases ex
    obtain ⟨h1, h2⟩ := List.getElem?_eq_some_iff.mp q
    rw [List.getElem_range] at h2
    subst h2
    refine ⟨(by simpa using h1 : i < n), fun v H' y => ?_⟩
    obtain ⟨rfl, rfl⟩ := y
    exact ⟨Same.refl _, rfl⟩
theorem val_int {S : Store} {d : D} {i : Int} (h : val S d = some (.int i)) : d = .p (.int i) := by
  cases d with
  | p x => cases h; rfl
  | ref l =>
    dsimp only [val] at h
    cases q : S[l]? with
    | none => rw [q] at h; cases h
    | some o => rw [q] at h; cases o <;> cases h
  | exc c fs => cases h
theorem vals_cons {S : Store} {d : D} {r : List D} {xs : List P} (h : vals S (d :: r) = some xs) : ∃ x ys, xs = x :: ys ∧ val S d = some x ∧ vals S r = some ys := by
  unfold vals at h
  cases q : val S d with
  | none => rw [q] at h; cases h
  | some x =>
    cases q2 : vals S r with
    | none => rw [q, q2] at h; cases h
    | some ys =>
      rw [q, q2] at h
      cases h
      exact ⟨x, ys, rfl, rfl, rfl⟩
theorem vals_nil {S : Store} {ds : List D} (h : vals S ds = some []) : ds = [] := by
  cases ds with
  | nil => rfl
  | cons d r =>
    obtain ⟨x, ys, e, _⟩ := vals_cons h
    cases e
theorem di_range1 {tg a : Expr} {i : IE} {p : Pos} (hg : Gl X "range") (hm : X.mg "range" = none) (ha : DA X cl W [a] (evEs rn (.cons i .nil))) (hs : starEach [a] X.env = [(false, eval a X.env)]) : DI X cl W tg (.Call (.Name "range" p) [a] [] pos) range1P (evEs rn (.cons i .nil)) :=
  PI.imp (pi_range1 hg hm ha hs) fun σ H R h => by
    obtain ⟨m, B, e, S, hS, hE, h⟩ := h
    refine tG_bind hS hE h fun ds S1 m1 H1 vs x1 hS1 hE1 r1 h1 eq1 => ?_
    obtain ⟨xs, items, e1, e2, h2⟩ := items_open (rep := rD X.K) h1
    unfold range1P at e2
    split at e2
    · rename_i j
      split at e2
      · rename_i hj
        cases e2
        match ds, e1, r1 with
        | [d], e1, r1 =>
          obtain ⟨x, ys, e3, e4, e5⟩ := vals_cons e1
          cases e3
          have ed := val_int e4
          subst ed
          obtain ⟨v, s, rfl, rv, es⟩ := r1
          cases es
          cases rv
          refine ⟨j, rfl, by omega, by omega, ?_⟩
          exact h2 m1 H1 ([.int j], Itr 0 j.toNat) .refl hS1 ⟨⟨_, [], rfl, rfl, rfl⟩, goes_range, by simp [rangeL, sizeLine_eq]; omega⟩
        | [], e1, r1 => cases e1
        | _ :: _ :: _, e1, r1 =>
          obtain ⟨x, ys, e3, e4, e5⟩ := vals_cons e1
          cases e3
          obtain ⟨x, ys, e3, e4, e5⟩ := vals_cons e5
          cases e3
      · cases e2
    · cases e2
theorem di_range2 {tg a b : Expr} {i j : IE} {p : Pos} (hg : Gl X "range") (hm : X.mg "range" = none) (ha : DA X cl W [a, b] (evEs rn (.cons i (.cons j .nil)))) (hs : starEach [a, b] X.env = [(false, eval a X.env), (false, eval b X.env)]) (hs2 : starEach [b] X.env = [(false, eval b X.env)]) :
    DI X cl W tg (.Call (.Name "range" p) [a, b] [] pos) range2P (evEs rn (.cons i (.cons j .nil))) :=
  PI.imp (pi_range2 hg hm ha hs hs2) fun σ H R h => by
    obtain ⟨m, B, e, S, hS, hE, h⟩ := h
    refine tG_bind hS hE h fun ds S1 m1 H1 vs x1 hS1 hE1 r1 h1 eq1 => ?_
    obtain ⟨xs, items, e1, e2, h2⟩ := items_open (rep := rD X.K) h1
    unfold range2P at e2
    split at e2
    · rename_i lo hi
      split at e2
      · rename_i hj
        cases e2
        match ds, e1, r1 with
        | [d, d'], e1, r1 =>
          obtain ⟨x, ys, e3, e4, e5⟩ := vals_cons e1
          cases e3
          obtain ⟨x, ys, e6, e7, e8⟩ := vals_cons e5
          cases e6
          have ed := val_int e4
          subst ed
          have ed := val_int e7
          subst ed
          obtain ⟨v, s, rfl, rv, v', s', es, rv', es'⟩ := r1
          cases es'
          subst es
          cases rv
          cases rv'
          refine ⟨lo, hi, rfl, by omega, ?_⟩
          exact h2 m1 H1 ([.int lo, .int hi], Itr lo (hi - lo).toNat) .refl hS1 ⟨⟨_, _, rfl, rfl, _, [], rfl, rfl, rfl⟩, goes_range, by simp [rangeL, sizeLine_eq]; omega⟩
        | [], e1, r1 => cases e1
        | [_], e1, r1 =>
          obtain ⟨x, ys, e3, e4, e5⟩ := vals_cons e1
          cases e3
          cases e5
        | _ :: _ :: _ :: _, e1, r1 =>
          obtain ⟨x, ys, e3, e4, e5⟩ := vals_cons e1
          cases e3
          obtain ⟨x, ys, e3, e4, e5⟩ := vals_cons e5
          cases e3
          obtain ⟨x, ys, e3, e4, e5⟩ := vals_cons e5
          cases e3
      · cases e2
    · cases e2
/-! ### comprehensions -/
def DTs (X : Cx) (cl : Cls_) (W : WX) (ifs : List Expr) (f : Env → Store → R D) : Prop := PTs X ifs (tG X.K cl W rB fun e S => testD (f e S))
theorem dts_nil : DTs X cl W [] (evE rn (.c (.bl true))) := ⟨fun pins s σ H Q I h => by
  obtain ⟨m, B, e, S, hS, hE, h⟩ := h
  exact pts_nil.run pins s σ H Q I (EndG.here (rep := rB) h hS rfl)⟩
theorem dts_one {c : Expr} {f : Env → Store → R D} (h : DT X cl W c f) : DTs X cl W [c] f := pts_one h
theorem fe_comp {elt tg iter : Expr} {ifs : List Expr} {scope : Scope} {own : List (Str × Nat)} {t : Tg} {f : List P → Option (List P)} {is : IEs} {cd j : IE} (hc : X.calm = true) (hN : X.N.Nodup) (hi : DI X cl W tg iter f (evEs rn is)) (ok : BlkOk X.N X.env.scope scope own)
    (hv : ∀ i ∈ t.slots, i ∈ own.map (·.2)) (hg : ∀ (s : Shared) (H : Hp) (C : Addr) (l : List (Str × Addr)) (fp : List Addr), DGT (X.blk s H scope (compEnvC scope l C X.env) fp) tg t)
    (ht : ∀ (s : Shared) (H : Hp) (C : Addr) (l : List (Str × Addr)) (fp : List Addr), DTs (X.blk s H scope (compEnvC scope l C X.env) fp) cl W0 ifs (evE rn cd))
    (he : ∀ (s : Shared) (H : Hp) (C : Addr) (l : List (Str × Addr)) (fp : List Addr), DE (X.blk s H scope (compEnvC scope l C X.env) fp) cl W0 elt (evE rn j)) (hs : ∀ x, foldedSetIterable iter X.env x = pure x) :
    FE X cl W (.ListComp elt [⟨tg, iter, ifs, 0⟩] scope pos) (evE rn (.comp (own.map (·.2)) t f is cd j)) :=
  PE.imp (pe_lc (g := gTg X.K t) (tt := tG X.K cl W0 rB fun e S => testD (evE rn cd e S)) (te := tG X.K cl W0 (rD X.K) (evE rn j)) hc hN hi ok hg ht he hs) fun σ H Q h => tLc_of hv h
/-- a store of a new list: what the statement wants -/
theorem asg_tF {K : PySem.W.Frag} {i : Nat} {a : IE} {σ : L2.St} {H : Hp} {D : Ends} (h : tS K cl W (evS rn w (.asg (.one i) a)) D σ H) : tF K cl W (evE rn a) σ H fun x H1 => gName i x σ H1 D.nx := by
  obtain ⟨m, B, e, S, hS, hE, h⟩ := h
  simp only [evS, assignTg] at h
  refine tF_of hS hE ?_
  have hp : ∀ {m' : Mp} {p b : Addr}, Pr m' B b → Pr m' (fun a => B a ∨ a = p) b := fun z => z.elim .inl fun z => .inr (.inl z)
  cases q : evE rn a e S with
  | ok d S1 =>
    rw [q, R.go_ok] at h
    cases d with
    | p x =>
      cases x with
      | lst xs =>
        intro m' H' p vs x np rs ep rp
        refine h m' H' _ x (rs.less fun a z => .inl z) ((x.relE hE).set (d := .p (.lst xs)) ⟨p, vs, rfl, fun z => ?_, ep, rp.less fun _ => hp⟩ i)
        exact z.elim (rs.bd p (.inr rfl)).2 fun z => (hS.bd p z).1 np
      | dic ks xs =>
        intro m' H' p vs u x np rs ep d rp
        refine h m' H' _ x (rs.less fun a z => .inl z) ((x.relE hE).set (d := .p (.dic ks xs)) ⟨p, vs, u, rfl, fun z => ?_, .inl ep, d, rp.less fun _ => hp⟩ i)
        exact z.elim (rs.bd p (.inr rfl)).2 fun z => (hS.bd p z).1 np
      | _ => exact fun m' H' v x rs rp => h m' H' _ x rs ((x.relE hE).set rp i)
    | ref l => exact fun m' H' v x rs rp => h m' H' _ x rs ((x.relE hE).set rp i)
    | exc c fs => exact fun m' H' v x rs rp => h m' H' _ x rs ((x.relE hE).set rp i)
  | ex c fs S1 =>
    rw [q] at h
    exact fun m' H' cls dd x rs xr => h m' H' σ cls dd x rs (x.relE hE) xr
  | no =>
    rw [q] at h
    exact h.elim
theorem asg_tFn {K : PySem.W.Frag} {i : Nat} {a : IE} {σ : L2.St} {H : Hp} {D : Ends} (h : tS K cl W (evS rn w (.asg (.one i) (.new a))) D σ H) : tF K cl W (evE rn a) σ H fun x H1 => gName i x σ H1 D.nx := by
  obtain ⟨m, B, e, S, hS, hE, h⟩ := h
  simp only [evS, assignTg, evE] at h
  refine tF_of hS hE ?_
  cases q : evE rn a e S with
  | ok d S1 =>
    rw [q, R.bind_ok] at h
    have hB : ∀ {p}, H p = none → ∀ a, B a → a ≠ p := fun {p} np a z e => (hS.bd a z).1 (by rw [e]; exact np)
    have hsub : ∀ {m' : Mp} {p a : Addr}, Pr (m' ++ [some p]) B a → Pr m' (fun a => B a ∨ a = p) a := fun z => by
      rcases z with z | z
      · rcases List.mem_append.mp z with z | z
        · exact .inl z
        · exact .inr (.inr (by simpa using z))
      · exact .inr (.inl z)
    cases d with
    | p x =>
      cases x with
      | lst xs =>
        intro m' H' p vs x np rs ep rp
        have x2 := new_ext x np
        refine h (m' ++ [some p]) H' _ x2 (new_rel (hB np) rs ⟨vs, ep, rp.less fun _ => hsub⟩) ((x2.relE hE).set (d := .ref S1.length) ?_ i)
        dsimp only [RepD]
        rw [← rs.len]
        simp
      | dic ks xs =>
        intro m' H' p vs u x np rs ep d rp
        have l1 : ks.length = xs.length := by rw [rp.len]; exact d.1
        have x2 := new_ext x np
        refine h (m' ++ [some p]) H' _ x2 (new_rel (hB np) rs ⟨vs, u, ep, by rw [List.map_fst_zip (Nat.le_of_eq l1)]; exact d, by rw [List.map_snd_zip (Nat.le_of_eq l1.symm)]; exact rp.less fun _ => hsub⟩) ((x2.relE hE).set (d := .ref S1.length) ?_ i)
        dsimp only [RepD]
        rw [← rs.len]
        simp
      | _ => exact h.elim
    | ref l => exact h.elim
    | exc c fs => exact h.elim
  | ex c fs S1 =>
    rw [q] at h
    exact fun m' H' cls dd x rs xr => h m' H' σ cls dd x rs (x.relE hE) xr
  | no =>
    rw [q] at h
    exact h.elim
section
variable {i : Nat} {y : Str} {py : Pos} {elt tg iter : Expr} {ifs : List Expr} {scope : Scope} {own : List (Str × Nat)} {t : Tg} {f : List P → Option (List P)} {is : IEs} {cd j : IE} {spos : Pos}
theorem ds_setLc (hc : X.calm = true) (hN : X.N.Nodup) (hy : X.N[i]? = some y) (hyl : X.env.scope.names.lookup y = some .local) (hsw : swapsWith (.ListComp elt [⟨tg, iter, ifs, 0⟩] scope pos) (some (.Name y py)) spos.line X.env = pure true) (hi : DI X cl W tg iter f (evEs rn is)) (ok : BlkOk X.N X.env.scope scope own)
    (hv : ∀ i ∈ t.slots, i ∈ own.map (·.2)) (hg : ∀ (s : Shared) (H : Hp) (C : Addr) (l : List (Str × Addr)) (fp : List Addr), DGT (X.blk s H scope (compEnvC scope l C X.env) fp) tg t)
    (ht : ∀ (s : Shared) (H : Hp) (C : Addr) (l : List (Str × Addr)) (fp : List Addr), DTs (X.blk s H scope (compEnvC scope l C X.env) fp) cl W0 ifs (evE rn cd))
    (he : ∀ (s : Shared) (H : Hp) (C : Addr) (l : List (Str × Addr)) (fp : List Addr), DE (X.blk s H scope (compEnvC scope l C X.env) fp) cl W0 elt (evE rn j)) (hs : ∀ x, foldedSetIterable iter X.env x = pure x) :
    DS X cl W (.Assign [.Name y py] (.ListComp elt [⟨tg, iter, ifs, 0⟩] scope pos) spos) (evS rn w (.asg (.one i) (.comp (own.map (·.2)) t f is cd j))) :=
  PS.imp (ps_setLc (g := gTg X.K t) (tt := tG X.K cl W0 rB fun e S => testD (evE rn cd e S)) (te := tG X.K cl W0 (rD X.K) (evE rn j)) hc hN hy hyl hsw hi ok hg ht he hs) fun D σ H h => tLc_of hv (asg_tF h)
theorem ds_setLcN (hc : X.calm = true) (hN : X.N.Nodup) (hy : X.N[i]? = some y) (hyl : X.env.scope.names.lookup y = some .local) (hsw : swapsWith (.ListComp elt [⟨tg, iter, ifs, 0⟩] scope pos) (some (.Name y py)) spos.line X.env = pure true) (hi : DI X cl W tg iter f (evEs rn is)) (ok : BlkOk X.N X.env.scope scope own)
    (hv : ∀ i ∈ t.slots, i ∈ own.map (·.2)) (hg : ∀ (s : Shared) (H : Hp) (C : Addr) (l : List (Str × Addr)) (fp : List Addr), DGT (X.blk s H scope (compEnvC scope l C X.env) fp) tg t)
    (ht : ∀ (s : Shared) (H : Hp) (C : Addr) (l : List (Str × Addr)) (fp : List Addr), DTs (X.blk s H scope (compEnvC scope l C X.env) fp) cl W0 ifs (evE rn cd))
    (he : ∀ (s : Shared) (H : Hp) (C : Addr) (l : List (Str × Addr)) (fp : List Addr), DE (X.blk s H scope (compEnvC scope l C X.env) fp) cl W0 elt (evE rn j)) (hs : ∀ x, foldedSetIterable iter X.env x = pure x) :
    DS X cl W (.Assign [.Name y py] (.ListComp elt [⟨tg, iter, ifs, 0⟩] scope pos) spos) (evS rn w (.asg (.one i) (.new (.comp (own.map (·.2)) t f is cd j)))) :=
  PS.imp (ps_setLc (g := gTg X.K t) (tt := tG X.K cl W0 rB fun e S => testD (evE rn cd e S)) (te := tG X.K cl W0 (rD X.K) (evE rn j)) hc hN hy hyl hsw hi ok hg ht he hs) fun D σ H h => tLc_of hv (asg_tFn h)
end
end
/-! ### a def -/
theorem relE_start {K : PySem.W.Frag} {m : Mp} {B : Addr → Prop} {H : Hp} {N : List Str} {nv : Nat} : ∀ {ds : List D} {vs : List V}, RepDs K H m B ds vs → N.length = ds.length + nv → RelE K m B (ds.map some ++ List.replicate nv none) (L2.start N vs) H := fun {ds vs} r hN => by
  have hl := r.len
  refine ⟨by unfold L2.start; simp; omega, fun i d q => ?_⟩
  unfold L2.start
  by_cases hi : i < ds.length
  · rw [List.getElem?_append_left (by simpa using hi), List.getElem?_map] at q
    rw [List.getElem?_append_left (by simpa [← hl] using hi), List.getElem?_map]
    have : ∀ {ds : List D} {vs : List V} {i : Nat} {d : D}, RepDs K H m B ds vs → ds[i]? = some d → ∃ v, vs[i]? = some v ∧ RepD K H m B d v := by
      intro ds
      induction ds with
      | nil => intro vs i d r e; simp at e
      | cons a ds ih =>
        intro vs i d r e
        obtain ⟨v, s, rfl, r1, r2⟩ := r
        cases i with
        | zero => simp at e; subst e; exact ⟨v, rfl, r1⟩
        | succ i => simp only [List.getElem?_cons_succ] at e ⊢; exact ih r2 e
    cases z : ds[i]? with
    | none => rw [z] at q; cases q
    | some d' =>
      rw [z] at q
      cases q
      obtain ⟨v, e, rv⟩ := this r z
      exact ⟨v, by rw [e]; rfl, rv⟩
  · rw [List.getElem?_append_right (by simpa using hi), List.getElem?_replicate] at q
    split at q <;> cases q
theorem XR.less {K : PySem.W.Frag} {cl : Cls_} {H : Hp} {m m' : Mp} {B : Addr → Prop} {c : Nat} {fs : List P} {cls : Value} {dd : Option Addr} (h : XR K cl H m B c fs cls dd) (hm : ∀ a, some a ∈ m' → some a ∈ m) : XR K cl H m' B c fs cls dd := by
  obtain ⟨C, names, e1, e2, q⟩ := h
  refine ⟨C, names, e1, e2, q.elim .inl fun ⟨d, fv, q1, q2, q3, q4, q5⟩ => .inr ⟨d, fv, q1, q2, fun z => q3 (hm _ z), q4, q5.less fun a z => z.elim (fun z => .inl (hm a z)) .inr⟩⟩
theorem fin_end {K : PySem.W.Frag} {cl : Cls_} {E : XK} {m : Mp} {B : Addr → Prop} {H : Hp} {S : Store} {r : RS} {Q : VK} (hS : RelS K m B S H) (h : EndG K cl (fun cls dd _ H' => E cls dd H') (rD K) m B [] H (fin S r) Q) :
    EndS K cl (fun cls dd _ H' => E cls dd H') m B H r { nx := fun _ H' => Q .non H', rt := Q } := by
  cases r with
  | nx e' S' =>
    intro m' H' σ' x rs re
    simp only [fin] at h
    by_cases ok : okT S S' = true
    · rw [if_pos ok] at h
      exact h _ H' .non (x.back (by rw [hS.len]; exact Nat.le_refl _)) (hS.back x rs ok) rfl
    · rw [if_neg ok] at h; exact h.elim
  | bk e' S' => exact h.elim
  | ct e' S' => exact h.elim
  | no => exact h.elim
  | ex c fs e' S' =>
    intro m' H' σ' cls dd x rs re xr
    simp only [fin] at h
    by_cases ok : okT S S' = true
    · rw [if_pos ok] at h
      exact h _ H' cls dd (x.back (by rw [hS.len]; exact Nat.le_refl _)) (hS.back x rs ok) (xr.less fun a z => mem_take z)
    · rw [if_neg ok] at h; exact h.elim
  | ret d S' =>
    intro m' H' v x rs rd
    cases d with
    | p y =>
      simp only [fin] at h
      by_cases ok : okT S S' = true
      · rw [if_pos ok] at h
        exact h _ H' v (x.back (by rw [hS.len]; exact Nat.le_refl _)) (hS.back x rs ok) (Rep.less Pr.take rd)
      · rw [if_neg ok] at h; exact h.elim
    | exc c fs => exact h.elim
    | ref l =>
      simp only [fin] at h
      by_cases ok : okT S S' = true
      · rw [if_pos ok] at h
        have rb := hS.back x rs ok
        have xb := x.back (n := S.length) (by rw [hS.len]; exact Nat.le_refl _)
        by_cases hl : l < S.length
        · rw [if_pos hl] at h
          refine h _ H' v xb rb ?_
          dsimp only [rD, RepD] at rd ⊢
          rw [List.getElem?_take_of_lt hl]
          exact rd
        · rw [if_neg hl] at h
          dsimp only [RepD] at rd
          cases z : m'[l]? with
          | none => rw [z] at rd; exact rd.elim
          | some y =>
            rw [z] at rd
            cases y with
            | none => rw [rs.dead l z] at h; exact h.elim
            | some a =>
              subst rd
              obtain ⟨o, q1, q2⟩ := rs.ob l a z
              rw [q1] at h
              have hn : (m'.take S.length).length = S.length := by
                rw [rb.len, List.length_take]
                have := okT_len ok
                omega
              have na : some a ∉ m'.take S.length := nomem_take rs z (Nat.le_of_not_lt hl)
              have am : some a ∈ m' := List.mem_of_getElem? z
              have nB : ∀ b, B b → b ≠ a := fun b hb e => (rs.bd b hb).2 (e ▸ am)
              have sub : ∀ b, Pr (m'.take S.length ++ [some a]) B b → Pr m' B b := fun b w => by
                rcases w with w | w
                · rcases List.mem_append.mp w with w | w
                  · exact .inl (mem_take w)
                  · have : b = a := by simpa using w
                    exact .inl (this ▸ am)
                · exact .inr w
              have sub2 : ∀ b, Pr (m'.take S.length) (fun b => B b ∨ b = a) b → Pr m' B b := fun b w => by
                rcases w with w | w | w
                · exact .inl (mem_take w)
                · exact .inr w
                · exact .inl (w ▸ am)
              have rban : RelS K (m'.take S.length) (fun b => B b ∨ b = a) (S'.take S.length) H' := by
                refine ⟨rb.len, rb.inj, fun i b e => ?_, rb.dead, fun b w => ?_⟩
                · obtain ⟨hi, e⟩ := take_at e
                  obtain ⟨o', g1, g2⟩ := rs.ob i b e
                  refine ⟨o', by rw [List.getElem?_take_of_lt hi, g1], ?_⟩
                  cases o' with
                  | lst xs =>
                    obtain ⟨vs, e, h⟩ := g2
                    exact ⟨vs, e, h.less sub2⟩
                  | dic kvs =>
                    obtain ⟨vs, u, e, d, h⟩ := g2
                    exact ⟨vs, u, e, d, h.less sub2⟩
                  | dir kvs =>
                    have e' : (m'.take S.length)[i]? = some (some b) := by rw [List.getElem?_take_of_lt hi, e]
                    obtain ⟨o2, k1, k2⟩ := rb.ob i b e'
                    rw [List.getElem?_take_of_lt hi, g1] at k1
                    cases k1
                    obtain ⟨vs, u, e2, d, h⟩ := k2
                    refine ⟨vs, u, e2, d, ?_⟩
                    have refsB : ∀ {kvs : List (P × Nat)} {vs : List V}, RepDs K H' (m'.take S.length) B (kvs.map fun p => .ref p.2) vs → RepDs K H' (m'.take S.length) (fun b => B b ∨ b = a) (kvs.map fun p => .ref p.2) vs := by
                      intro kvs
                      induction kvs with
                      | nil => exact fun r => r
                      | cons p r ih =>
                        intro vs r
                        obtain ⟨v, s, rfl, a1, b1⟩ := r
                        exact ⟨v, s, rfl, a1, ih b1⟩
                    exact refsB h
                  | dead => exact g2.elim
                · rcases w with w | w
                  · exact rb.bd b w
                  · rw [w]
                    exact ⟨rs.live am, na⟩
              have xn : Ext m H (m'.take S.length ++ [some a]) H' := ⟨by rw [List.length_append]; exact Nat.le_trans xb.len (Nat.le_add_right _ _), fun i y e => by
                  rcases xb.keep i y e with q | q
                  · exact .inl (by rw [List.getElem?_append_left (List.getElem?_eq_some_iff.mp q).1, q])
                  · exact .inr (by rw [List.getElem?_append_left (List.getElem?_eq_some_iff.mp q).1, q]), fun b o n e => ⟨(xb.obj b o n e).1, fun w => by
                  rcases List.mem_append.mp w with w | w
                  · exact (xb.obj b o n e).2 w
                  · have e2 : b = a := by simpa using w
                    exact (x.obj b o n e).2 (e2 ▸ am)⟩, xb.tup, xb.dom⟩
              have ref : RepD K H' (m'.take S.length ++ [some a]) B (.ref S.length) (.ref a) := by
                dsimp only [RepD]
                rw [List.getElem?_append_right (by omega), hn]
                simp
              cases o with
              | lst xs =>
                obtain ⟨vs, e, g⟩ := q2
                exact h _ H' (.ref a) xn (new_rel nB rban ⟨vs, e, g.less sub⟩) ref
              | dic kvs =>
                obtain ⟨vs, u, e, d, g⟩ := q2
                exact h _ H' (.ref a) xn (new_rel nB rban ⟨vs, u, e, d, g.less sub⟩) ref
              | dir kvs => exact h.elim
              | dead => exact h.elim
      · rw [if_neg ok] at h; exact h.elim
section
variable {Pg : Program} {wd : World} {K : PySem.W.Frag} {mg : Str → Option Value} {base : Heap}
theorem fn_okD {x qual : Str} {st : Stmt} {f : Addr} {fd : FuncData} {N ps : List Str} {k n nv : Nat} {cl : Cls_} {rn : Rn} {body : ISs} (F : Fun K x qual st f fd) (Sc : FnScope N ps (defScope st)) (hps : ps.length = n) (hN : N.length = n + nv)
    (h : ∀ (cdv : Value) (A : Around) (outer : List PySem.Env) (s : Shared) (H : Hp) (E : XK), Room k (A.deeper (envOfC qual (defScope st) s.heap.objs.size f cdv)) →
      DSs (cxOf (L2.CX Pg wd) Pg wd K mg base N qual (defScope st) f cdv A outer s H E) cl (fun cls dd _ H' => E cls dd H') (defBody st) (evSs rn turnsMost body)) :
    FnOk Pg wd K mg base (L2.CX Pg wd) (k + 1) f fd ps (spD K cl n fun ds S => if ds.length = n then fin S (evSs rn turnsMost body (ds.map some ++ List.replicate nv none) S) else .no) := by
  refine F.okX Sc (fun vs H Q E q => ?_) fun cdv A outer s H vs Q E hr q => ?_
  · obtain ⟨m, B, S, ds, hS, rd, hl, _⟩ := q
    rw [← rd.len, hl, hps]
  · refine ⟨_, h cdv A outer s H E hr, ?_⟩
    obtain ⟨m, B, S, ds, hS, rd, hl, q⟩ := q
    dsimp only at q
    rw [if_pos hl] at q
    exact ⟨m, B, _, S, hS, relE_start rd (by rw [hN, hl]), fin_end hS q⟩
end
end DL

set_option maxRecDepth 100000
set_option maxHeartbeats 1000000
/-! DOpS: the operations' rules say what the data functions say -/
namespace DL
open PySem PySem.Spec PyProof.Rows L2
theorem line_eq : line = sizeLine := by rw [sizeLine_eq]; rfl
section
variable {K : PySem.W.Frag} {H : Hp} {pr : Addr → Prop}
theorem RepT.lst {xs : List P} {v : V} (h : RepT K H pr (.lst xs) v) : ∃ a vs, v = .ref a ∧ H a = some (.lst vs) ∧ Reps K H pr xs vs := h
theorem RepT.tup {xs : List P} {v : V} (h : RepT K H pr (.tup xs) v) : ∃ a vs, v = .ref a ∧ SqT K H a vs ∧ Reps K H pr xs vs := h
theorem RepT.scr {xs : List P} {v : V} (h : RepT K H pr (.scr xs) v) : ∃ a vs, v = .ref a ∧ SqL K H a vs ∧ Reps K H pr xs vs := by
  obtain ⟨a, vs, e, q, r⟩ := (show Rep K H pr (.scr xs) v from h)
  exact ⟨a, vs, e, q.elim (fun q => .inl q.2) .inr, r⟩
theorem RepT.int {i : Int} {v : V} (h : RepT K H pr (.int i) v) : v = .int i := h
theorem RepT.bl {b : Bool} {v : V} (h : RepT K H pr (.bl b) v) : v = .bl b := h
theorem RepT.str {x : List Nat} {v : V} (h : RepT K H pr (.str x) v) : v = .str (strV x) ∧ okS x := h
theorem len_strV (x : List Nat) : (strV x).length = x.length := by simp [strV, Str.length]
theorem strV_app (x y : List Nat) : strV x ++ strV y = strV (x ++ y) := by
  show Str.append _ _ = _
  unfold Str.append strV
  simp
theorem okS_app {x y : List Nat} (h1 : okS x) (h2 : okS y) (h : x.length + y.length ≤ sizeLine) : okS (x ++ y) := ⟨by rw [List.length_append]; exact h, fun c hc => (List.mem_append.mp hc).elim (h1.2 c) (h2.2 c)⟩
theorem Reps.same {xs : List P} {vs : List V} {H' : Hp} (h : Reps K H pr xs vs) (s : Same H H') : Reps K H' pr xs vs := h.mono (fun a u n r => ⟨s _ _ r, n⟩) fun a xs r => r.elim (fun r => .inl (s _ _ r)) fun ⟨o, r⟩ => .inr ⟨o, s _ _ r⟩
theorem Rep.same {x : P} {v : V} {H' : Hp} (h : Rep K H pr x v) (s : Same H H') : Rep K H' pr x v := h.mono (fun a u n r => ⟨s _ _ r, n⟩) fun a xs r => r.elim (fun r => .inl (s _ _ r)) fun ⟨o, r⟩ => .inr ⟨o, s _ _ r⟩
theorem SqT.new {xs : List V} {p : Addr} : SqT K (upd H p (.tup xs)) p xs := .of upd_same
end
/-! ### ints -/
section
variable {K : PySem.W.Frag}
theorem ints2 {f : List P → Option P} {xs : List P} {z : P} (h : f xs = some z) (h0 : f [] = none) (h1 : ∀ a, f [a] = none) (h3 : ∀ a b c r, f (a :: b :: c :: r) = none) : ∃ x y, xs = [x, y] := by
  match xs, h with
  | [], h => rw [h0] at h; cases h
  | [a], h => rw [h1] at h; cases h
  | [a, b], h => exact ⟨a, b, rfl⟩
  | a :: b :: c :: r, h => rw [h3] at h; cases h
theorem one1 {f : List P → Option P} {xs : List P} {z : P} (h : f xs = some z) (h0 : f [] = none) (h2 : ∀ a b r, f (a :: b :: r) = none) : ∃ x, xs = [x] := by
  match xs, h with
  | [], h => rw [h0] at h; cases h
  | [a], h => exact ⟨a, rfl⟩
  | a :: b :: r, h => rw [h2] at h; cases h
theorem ov_sub : OpV K (rOf2 (rI0 fun i j => .int (i - j))) subP := .two (fun H pr x y v w z Q hp r1 r2 hf hq => by
  unfold subP at hf
  split at hf
  · rename_i e
    cases e
    cases hf
    exact ⟨_, _, r1.int, r2.int, hq H _ (Same.refl _) rfl⟩
  · cases hf) fun xs z h => ints2 h rfl (fun _ => by simp [subP]) fun _ _ _ _ => by simp [subP]
theorem ov_cmp {g : Int → Int → Bool} {f : List P → Option P} (h : ∀ xs z, f xs = some z → ∃ a b, xs = [.int a, .int b] ∧ z = .bl (g a b)) : OpV K (rOf2 (rI0 fun i j => .bl (g i j))) f := .two (fun H pr x y v w z Q hp r1 r2 hf hq => by
  obtain ⟨a, b, e, rfl⟩ := h _ _ hf
  cases e
  exact ⟨_, _, r1.int, r2.int, hq H _ (Same.refl _) rfl⟩) fun xs z hf => by
  obtain ⟨a, b, rfl, _⟩ := h _ _ hf
  exact ⟨_, _, rfl⟩
theorem ov_lt : OpV K (rOf2 (rI0 fun i j => .bl (decide (i < j)))) ltP := ov_cmp fun xs z h => by
  unfold ltP at h
  split at h
  · cases h; exact ⟨_, _, rfl, rfl⟩
  · cases h
theorem ov_le : OpV K (rOf2 (rI0 fun i j => .bl (decide (i ≤ j)))) leP := ov_cmp fun xs z h => by
  unfold leP at h
  split at h
  · cases h; exact ⟨_, _, rfl, rfl⟩
  · cases h
theorem ov_gt : OpV K (rOf2 (rI0 fun i j => .bl (decide (j < i)))) gtP := ov_cmp fun xs z h => by
  unfold gtP at h
  split at h
  · cases h; exact ⟨_, _, rfl, rfl⟩
  · cases h
theorem ov_ge : OpV K (rOf2 (rI0 fun i j => .bl (decide (j ≤ i)))) geP := ov_cmp fun xs z h => by
  unfold geP at h
  split at h
  · cases h; exact ⟨_, _, rfl, rfl⟩
  · cases h
theorem ov_fdiv : OpV K (rOf2 (rI CDivW fun i j => .int (i / j))) fdivP := .two (fun H pr x y v w z Q hp r1 r2 hf hq => by
  unfold fdivP at hf
  split at hf
  · rename_i e
    cases e
    split at hf
    · rename_i hc
      cases hf
      exact ⟨_, _, r1.int, r2.int, hc, hq H _ (Same.refl _) rfl⟩
    · cases hf
  · cases hf) fun xs z h => ints2 h rfl (fun _ => by simp [fdivP]) fun _ _ _ _ => by simp [fdivP]
theorem ov_mod : OpV K (rOf2 (rI (fun _ j => 0 < j) fun i j => .int (i % j))) modP := .two (fun H pr x y v w z Q hp r1 r2 hf hq => by
  unfold modP at hf
  split at hf
  · rename_i e
    cases e
    split at hf
    · rename_i hc
      cases hf
      exact ⟨_, _, r1.int, r2.int, hc, hq H _ (Same.refl _) rfl⟩
    · cases hf
  · cases hf) fun xs z h => ints2 h rfl (fun _ => by simp [modP]) fun _ _ _ _ => by simp [modP]
theorem ov_pow : OpV K (rOf2 (rI CPow fun i j => .int (i ^ j.toNat))) powP := .two (fun H pr x y v w z Q hp r1 r2 hf hq => by
  unfold powP at hf
  split at hf
  · rename_i e
    cases e
    split at hf
    · rename_i hc
      cases hf
      exact ⟨_, _, r1.int, r2.int, ⟨hc.1, hc.2.1, hc.2.2⟩, hq H _ (Same.refl _) rfl⟩
    · cases hf
  · cases hf) fun xs z h => ints2 h rfl (fun _ => by simp [powP]) fun _ _ _ _ => by simp [powP]
theorem ov_neg : OpV K (rOf1 (rU fun i => .int (-i))) negP := .one (fun H pr x v z Q hp r hf hq => by
  unfold negP at hf
  split at hf
  · rename_i e
    cases e
    cases hf
    exact ⟨_, r.int, hq H _ (Same.refl _) rfl⟩
  · cases hf) fun xs z h => one1 h rfl fun _ _ _ => by simp [negP]
/-! ### + -/
def rAddAll (K : PySem.W.Frag) : R2 := fun x y H Q => (∃ i j, x = .int i ∧ y = .int j ∧ Q (.int (i + j)) H) ∨ (∃ i j, x = .str i ∧ y = .str j ∧ i.length + j.length ≤ sizeLine ∧ Q (.str (i ++ j)) H) ∨ rCatA K x y H Q ∨ rCat x y H Q
theorem op_addAll {X : Cx} : OpR X (binaryOp .Add) (rAddAll X.K) := op_add.or (op_add_str.or (op_catA.or op_cat))
theorem ov_add : OpV K (rOf2 (rAddAll K)) addP := .two (fun H pr x y v w z Q hp r1 r2 hf hq => by
  unfold addP at hf
  split at hf
  · rename_i e
    cases e
    cases hf
    exact .inl ⟨_, _, r1.int, r2.int, hq H _ (Same.refl _) rfl⟩
  · rename_i e
    cases e
    split at hf
    · rename_i hc
      cases hf
      rw [line_eq] at hc
      obtain ⟨e1, o1⟩ := r1.str
      obtain ⟨e2, o2⟩ := r2.str
      refine .inr (.inl ⟨_, _, e1, e2, by rw [len_strV, len_strV]; exact hc, ?_⟩)
      rw [strV_app]
      exact hq H _ (Same.refl _) ⟨rfl, okS_app o1 o2 hc⟩
    · cases hf
  · rename_i a b e
    cases e
    split at hf
    · rename_i hc
      cases hf
      rw [line_eq] at hc
      obtain ⟨l1, vs1, rfl, s1, p1⟩ := r1.tup
      obtain ⟨l2, vs2, rfl, s2, p2⟩ := r2.tup
      refine .inr (.inr (.inl ⟨l1, l2, vs1, vs2, rfl, rfl, s1, s2, by rw [← p1.len, ← p2.len]; exact hc, fun e => ?_, fun n e => ?_, fun n1 n2 p np => ?_⟩))
      · subst e
        have : a = [] := List.eq_nil_of_length_eq_zero p1.len
        subst this
        exact hq H _ (Same.refl _) ⟨l2, vs2, rfl, s2, p2⟩
      · subst e
        have : b = [] := List.eq_nil_of_length_eq_zero p2.len
        subst this
        rw [List.append_nil] at hq
        exact hq H _ (Same.refl _) ⟨l1, vs1, rfl, s1, p1⟩
      · refine hq _ _ (Same.new np) ⟨p, _, rfl, SqT.new, ?_⟩
        exact (p1.append p2).same (Same.new np)
    · cases hf
  · rename_i e
    cases e
    split at hf
    · rename_i hc
      cases hf
      rw [line_eq] at hc
      obtain ⟨l1, vs1, rfl, s1, p1⟩ := r1.lst
      obtain ⟨l2, vs2, rfl, s2, p2⟩ := r2.lst
      refine .inr (.inr (.inr ⟨l1, l2, vs1, vs2, rfl, rfl, s1, s2, by rw [← p1.len, ← p2.len]; exact hc, fun p np => ?_⟩))
      exact hq _ _ (Same.new np) ⟨p, _, rfl, fun z => hp p z np, upd_same, ((p1.append p2).new np).less fun a z => .inl z⟩
    · cases hf
  · cases hf) fun xs z h => ints2 h rfl (fun _ => by simp [addP]) fun _ _ _ _ => by simp [addP]
/-! ### * -/
def rStrMul : R2 := fun x y H Q => ∃ z k, x = .str z ∧ y = .int k ∧ 2 ≤ k ∧ k ≤ 1000 ∧ 1 ≤ z.length ∧ z.length ≤ 1000 ∧ Q (.str ⟨(List.replicate k.toNat z.cps.toList).flatten.toArray⟩) H
theorem op_strMul {X : Cx} : OpR X (binaryOp .Mult) rStrMul := by
  intro pins s σ H x y v u Q I rx ry h
  obtain ⟨z, k, rfl, rfl, h1, h2, h3, h4, q⟩ := h
  obtain ⟨t, rfl⟩ := rx
  obtain ⟨t', rfl⟩ := ry
  have hb : (z.length : Int) * k ≤ 1000000 := by
    have a1 : (z.length : Int) * k ≤ 1000 * k := Int.mul_le_mul_of_nonneg_right (by omega) (by omega)
    omega
  have hfl : ∀ m : Nat, (List.replicate m z.cps).foldl (· ++ ·) #[] = (List.replicate m z.cps.toList).flatten.toArray := fun m => by
    have : ∀ (l : List (Array Nat)) (a : Array Nat), l.foldl (· ++ ·) a = (a.toList ++ (l.map Array.toList).flatten).toArray := by
      intro l
      induction l with
      | nil => intro a; simp
      | cons b r ih => intro a; rw [List.foldl_cons, ih]; simp
    rw [this]
    simp
  have hn : k.toNat ≤ 1000 := by omega
  have hlen : z.length * k.toNat ≤ 1000000 := Nat.le_trans (Nat.mul_le_mul h4 hn) (by decide)
  refine PySem.P.mul_str ?_ (fun _ _ => ?_) (fun _ _ => ?_) ?_
  · rw [decide_eq_false (by omega), decide_eq_false (by omega)]; rfl
  · have : (2 ^ 63 - 1) / k ≥ (2 ^ 63 - 1) / 1000 := by
      apply Int.le_ediv_of_mul_le (by omega)
      have : (2 ^ 63 - 1 : Int) / 1000 * k ≤ (2 ^ 63 - 1) / 1000 * 1000 := Int.mul_le_mul_of_nonneg_left h2 (by decide)
      have : (2 ^ 63 - 1 : Int) / 1000 * 1000 ≤ 2 ^ 63 - 1 := by decide
      omega
    have : ((2 : Int) ^ 63 - 1) / 1000 ≥ 1000 := by decide
    omega
  · unfold Builtin.Str.tooLong
    rw [decide_eq_false]
    have := sizeLine_eq
    first
      | omega
      | (simp only [Nat.not_lt]; omega)
  · rw [if_neg (by omega), if_neg (by simp; omega)]
    refine ⟨?_, ?_⟩
    · rw [hfl]
      show ((List.replicate k.toNat z.cps.toList).flatten.toArray).size ≤ _
      rw [List.size_toArray, PyProof.Rows.lm_len_rep_flat]
      have := sizeLine_eq
      have : k.toNat * z.cps.toList.length = z.length * k.toNat := by rw [Nat.mul_comm]; rfl
      omega
    · rw [hfl]
      exact ⟨.str _, H, I.tok _, ⟨_, rfl⟩, q⟩
def rMulAll (K : PySem.W.Frag) : R2 := fun x y H Q => rI CMulW (fun i j => .int (i * j)) x y H Q ∨ rRep x y H Q ∨ rRepT K x y H Q ∨ rStrMul x y H Q
theorem op_mulAll {X : Cx} : OpR X (binaryOp .Mult) (rMulAll X.K) := op_mulW.or (op_rep.or (op_repT.or op_strMul))
theorem Reps.rep {K : PySem.W.Frag} {H : Hp} {pr : Addr → Prop} {xs : List P} {vs : List V} (h : Reps K H pr xs vs) : ∀ n : Nat, Reps K H pr (List.replicate n xs).flatten (List.replicate n vs).flatten
  | 0 => Reps.nil_iff.mpr rfl
  | n + 1 => by
    rw [List.replicate_succ, List.replicate_succ, List.flatten_cons, List.flatten_cons]
    exact h.append (Reps.rep h n)
theorem ov_mul : OpV K (rOf2 (rMulAll K)) mulP := .two (fun H pr x y v w z Q hp r1 r2 hf hq => by
  unfold mulP at hf
  split at hf
  · rename_i e
    cases e
    split at hf
    · rename_i hc
      cases hf
      exact .inl ⟨_, _, r1.int, r2.int, hc, hq H _ (Same.refl _) rfl⟩
    · cases hf
  · rename_i e
    cases e
    split at hf
    · rename_i hc
      cases hf
      rw [line_eq] at hc
      obtain ⟨l1, vs1, rfl, s1, p1⟩ := r1.lst
      refine .inr (.inl ⟨l1, _, vs1, rfl, r2.int, s1, hc.1, hc.2.1, by rw [← p1.len]; exact hc.2.2, fun p np => ?_⟩)
      exact hq _ _ (Same.new np) ⟨p, _, rfl, fun z => hp p z np, upd_same, ((p1.rep _).new np).less fun a z => .inl z⟩
    · cases hf
  · rename_i e
    cases e
    split at hf
    · rename_i hc
      cases hf
      obtain ⟨l1, vs1, rfl, s1, p1⟩ := r1.tup
      have hl := p1.len
      refine .inr (.inr (.inl ⟨l1, _, vs1, rfl, r2.int, s1, fun z => hc.1 ?_, hc.2.1, hc.2.2.1, by omega, fun p np => ?_⟩))
      · subst z
        exact List.eq_nil_of_length_eq_zero hl
      · exact hq _ _ (Same.new np) ⟨p, _, rfl, SqT.new, (p1.rep _).same (Same.new np)⟩
    · cases hf
  · rename_i a k e
    cases e
    split at hf
    · rename_i hc
      cases hf
      obtain ⟨e1, o1⟩ := r1.str
      refine .inr (.inr (.inr ⟨_, _, e1, r2.int, hc.1, hc.2.1, by rw [len_strV]; exact hc.2.2.1, by rw [len_strV]; exact hc.2.2.2, ?_⟩))
      refine hq H _ (Same.refl _) ⟨by simp [strV], ?_, fun c hm => ?_⟩
      · rw [PyProof.Rows.lm_len_rep_flat, sizeLine_eq]
        have : k.toNat * a.length ≤ 1000 * 1000 := Nat.mul_le_mul (by omega) hc.2.2.2
        omega
      · obtain ⟨l, hl, hcl⟩ := List.mem_flatten.mp hm
        rw [List.eq_of_mem_replicate hl] at hcl
        exact o1.2 c hcl
    · cases hf
  · cases hf) fun xs z h => ints2 h rfl (fun _ => by simp [mulP]) fun _ _ _ _ => by simp [mulP]
end
end DL

set_option maxRecDepth 100000
set_option maxHeartbeats 1000000
/-! DOpT: comparisons of data, items, slices, calls of built-ins -/
namespace DL
open PySem PySem.Spec PyProof.Rows L2
/-! ### == -/
mutual
def toPy : P → PyData
  | .non => .none
  | .bl b => .bool b
  | .int i => .int i
  | .str x => .str (strV x)
  | .tup xs => .tuple (toPys xs)
  | .lst xs => .list (toPys xs)
  | .dic _ _ => .dict []
  | .scr _ => .dict []
def toPys : List P → List PyData
  | [] => []
  | x :: r => toPy x :: toPys r
end
theorem strV_inj {x y : List Nat} : (strV x == strV y) = decide (x = y) := by
  rw [Bool.eq_iff_iff]
  simp only [beq_iff_eq, decide_eq_true_eq]
  constructor
  · intro h
    have := congrArg (fun s : Str => s.cps.toList) h
    simpa [strV] using this
  · rintro rfl; rfl
mutual
theorem eqv_py : ∀ (n : Nat) (x y : P), x.shp n = true → y.shp n = true → PyData.eqv (toPy x) (toPy y) = x.eqv y
  | n, .non, y, h1, h2 => by cases y <;> simp [toPy, P.eqv, PyData.eqv, P.shp] at h2 ⊢
  | n, .bl b, y, h1, h2 => by cases y <;> simp [toPy, P.eqv, PyData.eqv, P.shp] at h2 ⊢ <;> rfl
  | n, .int i, y, h1, h2 => by cases y <;> simp [toPy, P.eqv, PyData.eqv, P.shp] at h2 ⊢ <;> rfl
  | n, .str x, y, h1, h2 => by
    cases y <;> simp only [toPy, P.eqv, PyData.eqv, strV_inj]
  | n + 1, .tup xs, y, h1, h2 => by
    cases y with
    | tup ys => simp only [toPy, P.eqv, PyData.eqv]; exact eqvs_py n xs ys (by simpa [P.shp] using h1) (by simpa [P.shp] using h2)
    | _ => simp [toPy, P.eqv, PyData.eqv]
  | n + 1, .lst xs, y, h1, h2 => by
    cases y with
    | lst ys => simp only [toPy, P.eqv, PyData.eqv]; exact eqvs_py n xs ys (by simpa [P.shp] using h1) (by simpa [P.shp] using h2)
    | _ => simp [toPy, P.eqv, PyData.eqv]
  | 0, .tup xs, y, h1, h2 => by simp [P.shp] at h1
  | 0, .lst xs, y, h1, h2 => by simp [P.shp] at h1
  | n, .dic _ _, y, h1, h2 => by cases n <;> simp [P.shp] at h1
  | n, .scr _, y, h1, h2 => by cases n <;> simp [P.shp] at h1
theorem eqvs_py : ∀ (n : Nat) (xs ys : List P), P.shps n xs = true → P.shps n ys = true → PyData.eqvAll (toPys xs) (toPys ys) = P.eqvs xs ys
  | n, [], ys, h1, h2 => by cases ys <;> simp [toPys, P.eqvs, PyData.eqvAll]
  | n, x :: xs, ys, h1, h2 => by
    cases ys with
    | nil => simp [toPys, P.eqvs, PyData.eqvAll]
    | cons y ys =>
      simp only [P.shps, Bool.and_eq_true] at h1 h2
      simp only [toPys, P.eqvs, PyData.eqvAll, eqv_py n x y h1.1 h2.1, eqvs_py n xs ys h1.2 h2.2]
end
mutual
theorem depth_py : ∀ (n : Nat) (x : P), x.shp n = true → (toPy x).depth ≤ n
  | n, .non, h => by simp [toPy, PyData.depth]
  | n, .bl _, h => by simp [toPy, PyData.depth]
  | n, .int _, h => by simp [toPy, PyData.depth]
  | n, .str _, h => by simp [toPy, PyData.depth]
  | n + 1, .tup xs, h => by
    simp only [toPy, PyData.depth]
    have := depths_py n xs (by simpa [P.shp] using h)
    omega
  | n + 1, .lst xs, h => by
    simp only [toPy, PyData.depth]
    have := depths_py n xs (by simpa [P.shp] using h)
    omega
  | 0, .tup xs, h => by simp [P.shp] at h
  | 0, .lst xs, h => by simp [P.shp] at h
  | n, .dic _ _, h => by cases n <;> simp [P.shp] at h
  | n, .scr _, h => by cases n <;> simp [P.shp] at h
theorem depths_py : ∀ (n : Nat) (xs : List P), P.shps n xs = true → PyData.depthAll (toPys xs) ≤ n
  | n, [], h => by simp [toPys, PyData.depthAll]
  | n, x :: xs, h => by
    simp only [P.shps, Bool.and_eq_true] at h
    have h1 := depth_py n x h.1
    have h2 := depths_py n xs h.2
    simp only [toPys, PyData.depthAll]
    omega
end
section
variable {K : PySem.W.Frag} {H : Hp} {pr : Addr → Prop}
mutual
theorem dp_of : ∀ (n : Nat) (x : P) (v : V), x.shp n = true → Rep K H pr x v → Dp K H v (toPy x) ∧ (toPy x).canLay0 = true
  | n, .non, v, h, r => by cases r; exact ⟨.non, rfl⟩
  | n, .bl _, v, h, r => by cases r; exact ⟨.bl _, rfl⟩
  | n, .int _, v, h, r => by cases r; exact ⟨.int _, rfl⟩
  | n, .str x, v, h, r => by
    obtain ⟨rfl, o⟩ := r
    refine ⟨.str _, ?_⟩
    show PyData.strOk (strV x) = true
    unfold PyData.strOk strV
    simp only [List.all_toArray, List.all_eq_true, decide_eq_true_eq]
    exact fun c hc => o.2 c hc
  | n + 1, .tup xs, v, h, r => by
    obtain ⟨a, vs, rfl, sq, rp⟩ := r
    obtain ⟨d, c⟩ := dps_of n xs vs (by simpa [P.shp] using h) rp
    exact ⟨.tup sq d, by simp only [toPy, PyData.canLay0]; exact c⟩
  | n + 1, .lst xs, v, h, r => by
    obtain ⟨a, vs, rfl, _, sq, rp⟩ := r
    obtain ⟨d, c⟩ := dps_of n xs vs (by simpa [P.shp] using h) rp
    exact ⟨.lst (.of sq) d, by simp only [toPy, PyData.canLay0]; exact c⟩
  | 0, .tup xs, v, h, r => by simp [P.shp] at h
  | 0, .lst xs, v, h, r => by simp [P.shp] at h
  | n, .dic _ _, v, h, r => by cases n <;> simp [P.shp] at h
  | n, .scr _, v, h, r => by cases n <;> simp [P.shp] at h
theorem dps_of : ∀ (n : Nat) (xs : List P) (vs : List V), P.shps n xs = true → Reps K H pr xs vs → DpAll K H vs (toPys xs) ∧ PyData.canLayAll0 (toPys xs) = true
  | n, [], vs, h, r => by
    rw [Reps.nil_iff] at r
    subst r
    exact ⟨.nil, rfl⟩
  | n, x :: xs, vs, h, r => by
    obtain ⟨v, s, rfl, r1, r2⟩ := Reps.cons_iff.mp r
    simp only [P.shps, Bool.and_eq_true] at h
    obtain ⟨d1, c1⟩ := dp_of n x v h.1 r1
    obtain ⟨d2, c2⟩ := dps_of n xs s h.2 r2
    exact ⟨.cons d1 d2, by simp only [toPys, PyData.canLayAll0, c1, c2, Bool.and_self]⟩
end
theorem dp_top {n : Nat} {x : P} {v : V} (h : x.shp n = true) (r : RepT K H pr x v) : Dp K H v (toPy x) ∧ (toPy x).canLay0 = true := by
  cases x with
  | lst xs =>
    obtain ⟨a, vs, rfl, sq, rp⟩ := r
    cases n with
    | zero => simp [P.shp] at h
    | succ n =>
      obtain ⟨d, c⟩ := dps_of n xs vs (by simpa [P.shp] using h) rp
      exact ⟨.lst (.of sq) d, by simp only [toPy, PyData.canLay0]; exact c⟩
  | dic ks xs => cases n <;> simp [P.shp] at h
  | non => exact dp_of (pr := pr) n _ v h r
  | bl b => exact dp_of (pr := pr) n _ v h r
  | int b => exact dp_of (pr := pr) n _ v h r
  | str b => exact dp_of (pr := pr) n _ v h r
  | tup b => exact dp_of (pr := pr) n _ v h r
  | scr b => exact dp_of (pr := pr) n _ v h r
theorem shaped_of {x : P} (h : x.shp 60 = true) (c : (toPy x).canLay0 = true) : SeqAt.shaped (toPy x) = true := by
  unfold SeqAt.shaped
  rw [c, Bool.true_and, decide_eq_true_eq]
  exact Nat.le_trans (depth_py 60 x h) (by decide)
end
section
variable {K : PySem.W.Frag}
theorem ov_eq : OpV K (rOf2 (rEqD K)) eqP := .two (fun H pr x y v w z Q hp r1 r2 hf hq => by
  simp only [eqP] at hf
  split at hf
  · rename_i hc
    rw [Bool.and_eq_true] at hc
    cases hf
    obtain ⟨d1, c1⟩ := dp_top hc.1 r1
    obtain ⟨d2, c2⟩ := dp_top hc.2 r2
    refine ⟨_, _, d1, d2, shaped_of hc.1 c1, shaped_of hc.2 c2, ?_⟩
    rw [eqv_py 60 x y hc.1 hc.2]
    exact hq H _ (Same.refl _) rfl
  · cases hf) fun xs z h => ints2 h rfl (fun _ => by simp [eqP]) fun _ _ _ _ => by simp [eqP]
theorem ov_ne : OpV K (rOf2 (rNeD K)) neP := .two (fun H pr x y v w z Q hp r1 r2 hf hq => by
  simp only [neP] at hf
  split at hf
  · rename_i hc
    rw [Bool.and_eq_true] at hc
    cases hf
    obtain ⟨d1, c1⟩ := dp_top hc.1 r1
    obtain ⟨d2, c2⟩ := dp_top hc.2 r2
    refine ⟨_, _, d1, d2, shaped_of hc.1 c1, shaped_of hc.2 c2, ?_⟩
    rw [eqv_py 60 x y hc.1 hc.2]
    exact hq H _ (Same.refl _) rfl
  · cases hf) fun xs z h => ints2 h rfl (fun _ => by simp [neP]) fun _ _ _ _ => by simp [neP]
theorem RepT.isnone {H : Hp} {pr : Addr → Prop} {x : P} {v : V} (r : RepT K H pr x v) : v = .non ↔ x = .non := by
  cases x with
  | non => exact ⟨fun _ => rfl, fun _ => r⟩
  | bl b => cases r; simp
  | int b => cases r; simp
  | str b => obtain ⟨rfl, _⟩ := r; simp
  | tup b => obtain ⟨a, vs, rfl, _⟩ := r; simp
  | lst b => obtain ⟨a, vs, rfl, _⟩ := r; simp
  | scr b => obtain ⟨a, vs, rfl, _⟩ := r; simp
  | dic b c => obtain ⟨a, vs, u, rfl, _⟩ := r; simp
theorem isNoneP_eq {x : P} {z : P} (h : isNoneP [x] = some z) : z = .bl (decide (x = .non)) := by
  cases x <;> simp [isNoneP] at h <;> subst h <;> simp
theorem notNoneP_eq {x : P} {z : P} (h : notNoneP [x] = some z) : z = .bl (!decide (x = .non)) := by
  cases x <;> simp [notNoneP] at h <;> subst h <;> simp
end
/-! ### items -/
section
variable {K : PySem.W.Frag}
theorem ixN_eq (n : Nat) (i : Int) : ixN n i = ixN' n i := rfl
theorem at_reps {H : Hp} {pr : Addr → Prop} {xs : List P} {vs : List V} {i : Int} {z : P} (r : Reps K H pr xs vs) (h : atP xs i = some z) : ∃ v, atI vs i = some v ∧ Rep K H pr z v := by
  unfold atP at h
  unfold atI
  rw [← r.len]
  rw [show ixN xs.length i = ixN' xs.length i from rfl]
  cases q : ixN' xs.length i with
  | none => rw [q] at h; cases h
  | some j =>
    rw [q] at h
    exact r.get h
theorem ov_ix : OpV K (rOf2 (rIx K)) ixP := .two (fun H pr x y v w z Q hp r1 r2 hf hq => by
  unfold ixP at hf
  split at hf
  · rename_i e
    cases e
    obtain ⟨l1, vs1, rfl, s1, p1⟩ := r1.lst
    obtain ⟨u, e1, ru⟩ := at_reps p1 hf
    exact .inl ⟨l1, vs1, _, u, rfl, r2.int, .of s1, e1, hq H u (Same.refl _) ru⟩
  · rename_i e
    cases e
    obtain ⟨l1, vs1, rfl, s1, p1⟩ := r1.tup
    obtain ⟨u, e1, ru⟩ := at_reps p1 hf
    exact .inr (.inl ⟨l1, vs1, _, u, rfl, r2.int, s1, e1, hq H u (Same.refl _) ru⟩)
  · rename_i e
    cases e
    obtain ⟨l1, vs1, rfl, s1, p1⟩ := r1.scr
    obtain ⟨u, e1, ru⟩ := at_reps p1 hf
    exact .inl ⟨l1, vs1, _, u, rfl, r2.int, s1, e1, hq H u (Same.refl _) ru⟩
  · rename_i s i e
    cases e
    obtain ⟨e1, o1⟩ := r1.str
    cases q : atP s i with
    | none => rw [q] at hf; cases hf
    | some c =>
      rw [q] at hf
      cases hf
      refine .inr (.inr ⟨strV s, i, c, e1, r2.int, by rw [len_strV]; exact o1.1, by rw [show (strV s).cps.toList = s by simp [strV]]; exact q, ?_⟩)
      refine hq H _ (Same.refl _) ⟨rfl, by rw [sizeLine_eq]; show 1 ≤ 16777216; decide, fun d hd => ?_⟩
      rw [List.mem_singleton.mp hd]
      unfold atP at q
      cases q2 : ixN' s.length i with
      | none => rw [q2] at q; cases q
      | some j => rw [q2] at q; exact o1.2 c (List.mem_of_getElem? q)
  · cases hf) fun xs z h => ints2 h rfl (fun _ => by simp [ixP]) fun _ _ _ _ => by simp [ixP]
/-! ### slices -/
theorem sIx_eq {n d : Nat} {l : P} {lo : Option Int} {k : Nat} (h : partO l = some lo) (e : sIx' n d l = some k) : HT.sIx n d lo = k := by
  cases l with
  | non => cases h; cases e; rfl
  | int v =>
    cases h
    simp only [sIx', Option.some.injEq] at e
    exact e
  | _ => cases h
theorem cut_reps {H : Hp} {pr : Addr → Prop} {xs : List P} {vs : List V} (r : Reps K H pr xs vs) (lo hi : Nat) : Reps K H pr (cutL xs lo hi) ((vs.drop lo).take (hi - lo)) := (r.drop lo).take _
theorem cutL_len {α : Type} (xs : List α) (lo hi : Nat) : (cutL xs lo hi).length ≤ xs.length := by
  unfold cutL
  rw [List.length_take, List.length_drop]
  omega
theorem okS_cut {x : List Nat} (h : okS x) (lo hi : Nat) : okS (cutL x lo hi) := ⟨Nat.le_trans (cutL_len x lo hi) h.1, fun c hc => h.2 c (List.mem_of_mem_drop (List.mem_of_mem_take hc))⟩
def rSliceAll (K : PySem.W.Frag) : V → Option Int → Option Int → Hp → VK → Prop := fun x lo hi H Q => rSlS x lo hi H Q ∨ rSlA K x lo hi H Q ∨ rSlL K x lo hi H Q
theorem sl_all {X : Cx} : SlR X (rSliceAll X.K) := sl_str.or (sl_tupA.or sl_list)
theorem os_slice : OpS K (rSliceAll K) sliceP := by
  intro H pr x l h v lo hi y Q hp r pl ph hf hq
  unfold sliceP at hf
  split at hf
  · rename_i s l' h' e
    cases e
    split at hf
    · rename_i a b e1 e2
      cases hf
      obtain ⟨e, o⟩ := r.str
      refine .inl ⟨_, e, by rw [len_strV]; exact o.1, ?_⟩
      have : cutS (strV s) lo hi = strV (cutL s a b) := by
        unfold cutS cutL strV
        have e0 : (Str.mk s.toArray).length = s.length := by simp [Str.length]
        rw [e0, sIx_eq pl e1, sIx_eq ph e2]
      rw [this]
      exact hq H _ (Same.refl _) ⟨rfl, okS_cut o _ _⟩
    · cases hf
  · rename_i s l' h' e
    cases e
    split at hf
    · rename_i a b e1 e2
      cases hf
      obtain ⟨t, vs, rfl, sq, rp⟩ := r.tup
      have hl := rp.len
      refine .inr (.inl ⟨t, vs, rfl, sq, fun hw => ?_, fun hw p np => ?_⟩)
      · rw [← hl, sIx_eq pl e1, sIx_eq ph e2] at hw
        obtain ⟨w1, w2⟩ := hw
        have : cutL s a b = s := by
          unfold cutL
          rw [w1, w2]
          simp
        rw [this] at hq
        exact hq H _ (Same.refl _) ⟨t, vs, rfl, sq, rp⟩
      · refine hq _ _ (Same.new np) ⟨p, _, rfl, SqT.new, ?_⟩
        unfold cutV
        rw [← hl, sIx_eq pl e1, sIx_eq ph e2]
        exact (cut_reps rp a b).same (Same.new np)
    · cases hf
  · rename_i s l' h' e
    cases e
    split at hf
    · rename_i a b e1 e2
      cases hf
      obtain ⟨t, vs, rfl, sq, rp⟩ := r.lst
      have hl := rp.len
      refine .inr (.inr ⟨t, vs, rfl, .of sq, fun p np => ?_⟩)
      refine hq _ _ (Same.new np) ⟨p, _, rfl, fun z => hp p z np, upd_same, ?_⟩
      unfold cutV
      rw [← hl, sIx_eq pl e1, sIx_eq ph e2]
      exact ((cut_reps rp a b).new np).less fun a z => .inl z
    · cases hf
  · rename_i s l' h' e
    cases e
    split at hf
    · rename_i a b e1 e2
      cases hf
      obtain ⟨t, vs, rfl, sq, rp⟩ := r.scr
      have hl := rp.len
      refine .inr (.inr ⟨t, vs, rfl, sq, fun p np => ?_⟩)
      refine hq _ _ (Same.new np) ⟨p, _, rfl, fun z => hp p z np, upd_same, ?_⟩
      unfold cutV
      rw [← hl, sIx_eq pl e1, sIx_eq ph e2]
      exact ((cut_reps rp a b).new np).less fun a z => .inl z
    · cases hf
  · cases hf
theorem osf_slice : OpSF K (rSliceAll K) sliceL := by
  intro H pr x l h v lo hi y Q hp r pl ph hf hq
  unfold sliceL at hf
  split at hf
  · rename_i s l' h' e
    cases e
    split at hf
    · rename_i a b e1 e2
      cases hf
      obtain ⟨t, vs, rfl, sq, rp⟩ := r.lst
      refine .inr (.inr ⟨t, vs, rfl, .of sq, fun p np => ?_⟩)
      refine hq.lst ?_ np
      unfold cutV
      rw [← rp.len, sIx_eq pl e1, sIx_eq ph e2]
      exact cut_reps rp a b
    · cases hf
  · rename_i s l' h' e
    cases e
    split at hf
    · rename_i a b e1 e2
      cases hf
      obtain ⟨t, vs, rfl, sq, rp⟩ := r.scr
      refine .inr (.inr ⟨t, vs, rfl, sq, fun p np => ?_⟩)
      refine hq.lst ?_ np
      unfold cutV
      rw [← rp.len, sIx_eq pl e1, sIx_eq ph e2]
      exact cut_reps rp a b
    · cases hf
  · cases hf
theorem sliceL_lst : ∀ xs y, sliceL xs = some y → ∃ xs, y = .lst xs := by
  intro xs y h
  unfold sliceL at h
  split at h
  · split at h
    · cases h; exact ⟨_, rfl⟩
    · cases h
  · split at h
    · cases h; exact ⟨_, rfl⟩
    · cases h
  · cases h
end
end DL

set_option maxRecDepth 100000
set_option maxHeartbeats 1000000
/-! DOpU: built-in functions, methods, changes of lists -/
namespace DL
open PySem PySem.Spec PyProof.Rows L2
section
variable {K : PySem.W.Frag}
theorem repTs1 {H : Hp} {pr : Addr → Prop} {x : P} {vs : List V} (h : RepTs K H pr [x] vs) : ∃ v, vs = [v] ∧ RepT K H pr x v := by
  obtain ⟨v, s, rfl, r, e⟩ := h
  cases e
  exact ⟨v, rfl, r⟩
theorem repTs2 {H : Hp} {pr : Addr → Prop} {x y : P} {vs : List V} (h : RepTs K H pr [x, y] vs) : ∃ v w, vs = [v, w] ∧ RepT K H pr x v ∧ RepT K H pr y w := by
  obtain ⟨v, s, rfl, r, w, s', rfl, r', e⟩ := h
  cases e
  exact ⟨v, w, rfl, r, r'⟩
def rLen (K : PySem.W.Frag) : List V → Hp → VK → Prop := fun xs H Q => ∃ x n, xs = [x] ∧ LenV K x H n ∧ Q (.int n) H
theorem ov_len : OpV K (rLen K) (fun xs => match xs with | [.dic _ _] => none | xs => lenP xs) := by
  intro H pr xs vs y Q hp hr hf hq
  match xs, hf with
  | [.lst xs], hf =>
    cases hf
    obtain ⟨v, rfl, r⟩ := repTs1 hr
    obtain ⟨a, ws, rfl, s, rp⟩ := r.lst
    exact ⟨_, _, rfl, .inl ⟨ws, .of s, rfl⟩, by rw [← rp.len]; exact hq H _ (Same.refl _) rfl⟩
  | [.tup xs], hf =>
    cases hf
    obtain ⟨v, rfl, r⟩ := repTs1 hr
    obtain ⟨a, ws, rfl, s, rp⟩ := r.tup
    exact ⟨_, _, rfl, .inr ⟨ws, s, rfl⟩, by rw [← rp.len]; exact hq H _ (Same.refl _) rfl⟩
  | [.scr xs], hf =>
    cases hf
    obtain ⟨v, rfl, r⟩ := repTs1 hr
    obtain ⟨a, ws, rfl, s, rp⟩ := r.scr
    exact ⟨_, _, rfl, .inl ⟨ws, s, rfl⟩, by rw [← rp.len]; exact hq H _ (Same.refl _) rfl⟩
  | [.str x], hf =>
    cases hf
    obtain ⟨v, rfl, r⟩ := repTs1 hr
    obtain ⟨rfl, o⟩ := r.str
    exact ⟨_, x.length, rfl, ⟨by rw [len_strV]; exact o.1, by rw [len_strV]⟩, hq H _ (Same.refl _) rfl⟩
  | [], hf => simp [lenP] at hf
  | [.non], hf => simp [lenP] at hf
  | [.bl _], hf => simp [lenP] at hf
  | [.int _], hf => simp [lenP] at hf
  | [.dic _ _], hf => simp at hf
  | _ :: _ :: _, hf => simp [lenP] at hf
theorem ov_lenQ : OpV K (rLen K) lenQ := ov_len
theorem ov_max2 : OpV K (fun xs H Q => ∃ i j, xs = [.int i, .int j] ∧ Q (.int (if j > i then j else i)) H) max2P := by
  intro H pr xs vs y Q hp hr hf hq
  unfold max2P at hf
  split at hf
  · cases hf
    obtain ⟨v, w, rfl, r1, r2⟩ := repTs2 hr
    cases r1.int
    cases r2.int
    exact ⟨_, _, rfl, hq H _ (Same.refl _) rfl⟩
  · cases hf
theorem ov_min2 : OpV K (fun xs H Q => ∃ i j, xs = [.int i, .int j] ∧ Q (.int (if j < i then j else i)) H) min2P := by
  intro H pr xs vs y Q hp hr hf hq
  unfold min2P at hf
  split at hf
  · cases hf
    obtain ⟨v, w, rfl, r1, r2⟩ := repTs2 hr
    cases r1.int
    cases r2.int
    exact ⟨_, _, rfl, hq H _ (Same.refl _) rfl⟩
  · cases hf
theorem ov_abs : OpV K (fun xs H Q => ∃ i, xs = [.int i] ∧ Q (.int (if i < 0 then -i else i)) H) absP := by
  intro H pr xs vs y Q hp hr hf hq
  unfold absP at hf
  split at hf
  · cases hf
    obtain ⟨v, rfl, r1⟩ := repTs1 hr
    cases r1.int
    exact ⟨_, rfl, hq H _ (Same.refl _) rfl⟩
  · cases hf
theorem ov_int : OpV K (fun xs H Q => (∃ i, xs = [.int i] ∧ Q (.int i) H) ∨ ∃ k, xs = [.bl k] ∧ Q (.int (if k then 1 else 0)) H) intP := by
  intro H pr xs vs y Q hp hr hf hq
  unfold intP at hf
  split at hf
  · cases hf
    obtain ⟨v, rfl, r1⟩ := repTs1 hr
    cases r1.int
    exact .inl ⟨_, rfl, hq H _ (Same.refl _) rfl⟩
  · cases hf
    obtain ⟨v, rfl, r1⟩ := repTs1 hr
    cases r1.bl
    exact .inr ⟨_, rfl, hq H _ (Same.refl _) rfl⟩
  · cases hf
theorem ov_tuple : OpV K (fun xs H Q => ∃ p ys, xs = [.ref p] ∧ ((SqL K H p ys ∧ ∀ l, H l = none → Q (.ref l) (upd H l (.tup ys))) ∨ (SqT K H p ys ∧ Q (.ref p) H))) tupleP := by
  intro H pr xs vs y Q hp hr hf hq
  unfold tupleP at hf
  split at hf
  · cases hf
    obtain ⟨v, rfl, r1⟩ := repTs1 hr
    obtain ⟨a, ws, rfl, s, rp⟩ := r1.lst
    exact ⟨a, ws, rfl, .inl ⟨.of s, fun l nl => hq _ _ (Same.new nl) ⟨l, ws, rfl, SqT.new, rp.same (Same.new nl)⟩⟩⟩
  · cases hf
    obtain ⟨v, rfl, r1⟩ := repTs1 hr
    obtain ⟨a, ws, rfl, s, rp⟩ := r1.tup
    exact ⟨a, ws, rfl, .inr ⟨s, hq _ _ (Same.refl _) ⟨a, ws, rfl, s, rp⟩⟩⟩
  · cases hf
def rListOf (K : PySem.W.Frag) : List V → Hp → VK → Prop := fun xs H Q => ∃ p ys, xs = [.ref p] ∧ (SqL K H p ys ∨ SqT K H p ys) ∧ ∀ l, H l = none → Q (.ref l) (upd H l (.lst ys))
theorem of_list : OpF K (rListOf K) listP := by
  intro H pr xs vs y Q hp hr hf hq
  unfold listP at hf
  split at hf
  · cases hf
    obtain ⟨v, rfl, r1⟩ := repTs1 hr
    obtain ⟨a, ws, rfl, s, rp⟩ := r1.lst
    exact ⟨a, ws, rfl, .inl (.of s), fun l nl => hq.lst rp nl⟩
  · cases hf
    obtain ⟨v, rfl, r1⟩ := repTs1 hr
    obtain ⟨a, ws, rfl, s, rp⟩ := r1.tup
    exact ⟨a, ws, rfl, .inr s, fun l nl => hq.lst rp nl⟩
  · cases hf
    obtain ⟨v, rfl, r1⟩ := repTs1 hr
    obtain ⟨a, ws, rfl, s, rp⟩ := r1.scr
    exact ⟨a, ws, rfl, .inl s, fun l nl => hq.lst rp nl⟩
  · cases hf
theorem listP_lst : ∀ xs y, listP xs = some y → (∃ xs, y = .lst xs) ∨ (∃ ks xs, y = .dic ks xs) := by
  intro xs y h
  unfold listP at h
  split at h
  · cases h; exact .inl ⟨_, rfl⟩
  · cases h; exact .inl ⟨_, rfl⟩
  · cases h; exact .inl ⟨_, rfl⟩
  · cases h
/-! ### join -/
theorem strs_reps {H : Hp} {pr : Addr → Prop} : ∀ {xs : List P} {ys : List (List Nat)} {vs : List V}, Reps K H pr xs vs → strsP xs = some ys → vs = (ys.map strV).map V.str ∧ ∀ y ∈ ys, okS y
  | [], ys, vs, r, h => by
    cases h
    rw [Reps.nil_iff] at r
    exact ⟨r, fun y hy => by cases hy⟩
  | x :: xs, ys, vs, r, h => by
    obtain ⟨v, s, rfl, r1, r2⟩ := Reps.cons_iff.mp r
    cases x with
    | str z =>
      unfold strsP at h
      cases q : strsP xs with
      | none => rw [q] at h; cases h
      | some zs =>
        rw [q] at h
        cases h
        obtain ⟨e, o⟩ := strs_reps r2 q
        obtain ⟨rfl, oz⟩ := r1
        exact ⟨by rw [e]; rfl, fun y hy => (List.mem_cons.mp hy).elim (fun e => e ▸ oz) (o y)⟩
    | _ => cases h
theorem join_strV (a : List Nat) : ∀ ys : List (List Nat), Txt.join (strV a) (ys.map strV) = strV (joinL a ys)
  | [] => by
    rw [show Txt.join (strV a) (List.map strV []) = Builtin.Str.glued (strV a) [] from rfl, StrLaws.glued_eq_join]
    rfl
  | [x] => by
    rw [show Txt.join (strV a) (List.map strV [x]) = Builtin.Str.glued (strV a) [strV x] from rfl, StrLaws.glued_eq_join]
    rfl
  | x :: y :: r => by
    have ih := join_strV a (y :: r)
    rw [show Txt.join (strV a) (List.map strV (y :: r)) = Builtin.Str.glued (strV a) (List.map strV (y :: r)) from rfl, StrLaws.glued_eq_join] at ih
    rw [show Txt.join (strV a) (List.map strV (x :: y :: r)) = Builtin.Str.glued (strV a) (List.map strV (x :: y :: r)) from rfl, StrLaws.glued_eq_join]
    show strV x ++ strV a ++ Str.join (strV a) (List.map strV (y :: r)) = _
    rw [ih, strV_app, strV_app]
    rfl
theorem joinL_ok {a : List Nat} (ha : okS a) : ∀ {ys : List (List Nat)}, (∀ y ∈ ys, okS y) → (ys.map (·.length)).sum + ys.length * a.length ≤ line → okS (joinL a ys)
  | [], _, _ => ⟨Nat.zero_le _, fun c hc => by cases hc⟩
  | [x], h, _ => h x List.mem_cons_self
  | x :: y :: r, h, hs => by
    simp only [List.map_cons, List.sum_cons, List.length_cons] at hs
    have hlen : ∀ zs : List (List Nat), (joinL a zs).length ≤ (zs.map (·.length)).sum + zs.length * a.length := by
      intro zs
      induction zs with
      | nil => simp [joinL]
      | cons z zs ih =>
        cases zs with
        | nil => simp [joinL]
        | cons u us =>
          simp only [joinL, List.length_append, List.map_cons, List.sum_cons, List.length_cons] at ih ⊢
          have := Nat.add_mul (us.length + 1) 1 a.length
          omega
    have h2 := hlen (y :: r)
    simp only [List.map_cons, List.sum_cons, List.length_cons] at h2
    have e1 := Nat.add_mul (r.length + 1) 1 a.length
    have ih := joinL_ok ha (ys := y :: r) (fun z hz => h z (List.mem_cons_of_mem _ hz)) (by simp only [List.map_cons, List.sum_cons, List.length_cons]; omega)
    refine ⟨?_, fun c hc => ?_⟩
    · rw [← line_eq]
      simp only [joinL, List.length_append]
      omega
    · rcases List.mem_append.mp hc with hc | hc
      · rcases List.mem_append.mp hc with hc | hc
        · exact (h x List.mem_cons_self).2 c hc
        · exact ha.2 c hc
      · exact ih.2 c hc
def rJoin (K : PySem.W.Frag) : V → List V → Hp → VK → Prop := fun x xs H Q => ∃ a p, ∃ ys : List Str, x = .str a ∧ xs = [.ref p] ∧ (SqL K H p (ys.map V.str) ∨ SqT K H p (ys.map V.str)) ∧
    (ys.map (·.length)).sum + ys.length * a.length ≤ 16777216 ∧ Q (.str (Txt.join a ys)) H
theorem sum_strV (ys : List (List Nat)) : ((ys.map strV).map (·.length)).sum = (ys.map (·.length)).sum := by
  congr 1
  rw [List.map_map]
  apply List.map_congr_left
  intro x _
  exact len_strV x
theorem ov_join : OpV K (rOfM (rJoin K)) joinP := by
  intro H pr xs vs y Q hp hr hf hq x0 xs0 e0
  unfold joinP at hf
  split at hf
  · rename_i a zs
    obtain ⟨v, w, rfl, r1, r2⟩ := repTs2 hr
    cases e0
    split at hf
    · rename_i ys q
      split at hf
      · rename_i hs
        cases hf
        obtain ⟨e1, o1⟩ := r1.str
        obtain ⟨p, ws, rfl, s, rp⟩ := r2.lst
        obtain ⟨e2, o2⟩ := strs_reps rp q
        refine ⟨strV a, p, ys.map strV, e1, rfl, .inl (.of (by rw [← e2]; exact s)), ?_, ?_⟩
        · rw [sum_strV, List.length_map, len_strV]
          exact hs
        · rw [join_strV]
          exact hq H _ (Same.refl _) ⟨rfl, joinL_ok o1 o2 hs⟩
      · cases hf
    · cases hf
  · rename_i a zs
    obtain ⟨v, w, rfl, r1, r2⟩ := repTs2 hr
    cases e0
    split at hf
    · rename_i ys q
      split at hf
      · rename_i hs
        cases hf
        obtain ⟨e1, o1⟩ := r1.str
        obtain ⟨p, ws, rfl, s, rp⟩ := r2.tup
        obtain ⟨e2, o2⟩ := strs_reps rp q
        refine ⟨strV a, p, ys.map strV, e1, rfl, .inr (by rw [← e2]; exact s), ?_, ?_⟩
        · rw [sum_strV, List.length_map, len_strV]
          exact hs
        · rw [join_strV]
          exact hq H _ (Same.refl _) ⟨rfl, joinL_ok o1 o2 hs⟩
      · cases hf
    · cases hf
  · cases hf
/-! ### all, any -/
theorem bools_reps {H : Hp} {pr : Addr → Prop} : ∀ {xs : List P} {bs : List Bool} {vs : List V}, Reps K H pr xs vs → bools xs = some bs → vs = bs.map V.bl
  | [], bs, vs, r, h => by
    cases h
    exact Reps.nil_iff.mp r
  | x :: xs, bs, vs, r, h => by
    obtain ⟨v, s, rfl, r1, r2⟩ := Reps.cons_iff.mp r
    cases x with
    | bl b =>
      unfold bools at h
      cases q : bools xs with
      | none => rw [q] at h; cases h
      | some cs =>
        rw [q] at h
        cases h
        rw [bools_reps r2 q, show v = .bl b from r1]
        rfl
    | _ => cases h
theorem ov_all : OpV K (rAll K) allP := by
  intro H pr xs vs y Q hp hr hf hq
  unfold allP at hf
  split at hf
  · rename_i zs
    obtain ⟨v, rfl, r1⟩ := repTs1 hr
    obtain ⟨a, ws, rfl, s, rp⟩ := r1.lst
    cases q : bools zs with
    | none => rw [q] at hf; cases hf
    | some bs =>
      rw [q] at hf
      cases hf
      exact ⟨a, bs, rfl, .of (by rw [← bools_reps rp q]; exact s), hq H _ (Same.refl _) rfl⟩
  · cases hf
theorem ov_any : OpV K (rAny K) anyP := by
  intro H pr xs vs y Q hp hr hf hq
  unfold anyP at hf
  split at hf
  · rename_i zs
    obtain ⟨v, rfl, r1⟩ := repTs1 hr
    obtain ⟨a, ws, rfl, s, rp⟩ := r1.lst
    cases q : bools zs with
    | none => rw [q] at hf; cases hf
    | some bs =>
      rw [q] at hf
      cases hf
      exact ⟨a, bs, rfl, .of (by rw [← bools_reps rp q]; exact s), hq H _ (Same.refl _) rfl⟩
  · cases hf
/-! ### in -/
theorem ov_inSign : OpV K (rOf2 fun x y H Q => ∃ (c : Nat) (z : Str), x = .str ⟨#[c]⟩ ∧ y = .str z ∧ Q (.bl (decide (c ∈ z.cps.toList))) H) inSignP := .two (fun H pr x y v w z Q hp r1 r2 hf hq => by
  unfold inSignP at hf
  split at hf
  · rename_i c t e
    cases e
    cases hf
    refine ⟨c, strV t, r1.str.1, r2.str.1, ?_⟩
    rw [show (strV t).cps.toList = t by simp [strV]]
    exact hq H _ (Same.refl _) rfl
  · cases hf) fun xs z h => ints2 h rfl (fun _ => by simp [inSignP]) fun _ _ _ _ => by simp [inSignP]
theorem ov_notInSign : OpV K (rOf2 fun x y H Q => ∃ (c : Nat) (z : Str), x = .str ⟨#[c]⟩ ∧ y = .str z ∧ Q (.bl (!decide (c ∈ z.cps.toList))) H) notInSignP := .two (fun H pr x y v w z Q hp r1 r2 hf hq => by
  unfold notInSignP at hf
  split at hf
  · rename_i c t e
    cases e
    cases hf
    refine ⟨c, strV t, r1.str.1, r2.str.1, ?_⟩
    rw [show (strV t).cps.toList = t by simp [strV]]
    exact hq H _ (Same.refl _) rfl
  · cases hf) fun xs z h => ints2 h rfl (fun _ => by simp [notInSignP]) fun _ _ _ _ => by simp [notInSignP]
end
/-! ### isinstance -/
def Tys (T : String) : Prop := T = "bool" ∨ T = "int" ∨ T = "str" ∨ T = "tuple" ∨ T = "list" ∨ T = "dict"
/-- a value's type, and what the library asks of it -/
def TyZ (K : PySem.W.Frag) (H : Hp) (v : V) (t : Value) : Prop := TyX K H v t ∨ (t = .type "dict" ∧ ∃ a kvs, v = .ref a ∧ Rd H a (.dT kvs))
def rIsZ (K : PySem.W.Frag) : List V → Hp → VK → Prop := fun xs H Q => ∃ (x c : V) (t u : Value) (b : Bool), xs = [x, c] ∧ ClsV c u ∧ TyZ K H x t ∧ PySem.W.kitOne K t u = some b ∧ Q (.bl b) H
theorem call_isZ {X : Cx} : CallR X (.builtin "isinstance") (rIsZ X.K) := by
  intro pins s σ H xs us Q I r h
  obtain ⟨x, c, t, u, b, rfl, k, ty, e, q⟩ := h
  obtain ⟨u1, u2, rfl, r1, r2⟩ := vals2 r
  have e2 := k.eq r2
  subst e2
  rcases ty with ty | ⟨rfl, a, kvs, rfl, rd⟩
  · obtain ⟨P, Z, p, hx⟩ := kit_of I r1 ty
    exact PySem.W.kia_one Z I.kIn p e hx fun tk => ⟨.bl b, H, I.tok tk, rfl, q⟩
  · cases (show u1 = Value.ref a from r1)
    obtain ⟨_, _, xs, _, o, es, ep, h1, h2, _⟩ := rd.ok I.hok
    exact PySem.W.kia_one PySem.W.kitx_dict I.kIn ⟨o, h1, h2.1⟩ e (fun z => nomatch z) fun tk => ⟨.bl b, H, I.tok tk, rfl, q⟩
theorem tyx_of {K : PySem.W.Frag} {H : Hp} {pr : Addr → Prop} {x : P} {v : V} (r : RepT K H pr x v) {T : String} {b : Bool} (h : isTyP T x = some b) (hT : Tys T) : ∃ t, TyZ K H v t ∧ PySem.W.kitOne K t (.type T) = some b := by
  cases x with
  | non =>
    cases r
    refine ⟨_, .inl (.base .non), kit_ty ?_⟩
    cases h
    rcases hT with rfl | rfl | rfl | rfl | rfl | rfl <;> decide +kernel
  | bl c =>
    cases r.bl
    refine ⟨_, .inl (.base (.bl _)), kit_ty ?_⟩
    cases h
    rcases hT with rfl | rfl | rfl | rfl | rfl | rfl <;> decide +kernel
  | int c =>
    cases r.int
    refine ⟨_, .inl (.base (.int _)), kit_ty ?_⟩
    cases h
    rcases hT with rfl | rfl | rfl | rfl | rfl | rfl <;> decide +kernel
  | str c =>
    obtain ⟨rfl, _⟩ := r.str
    refine ⟨_, .inl (.base (.str _)), kit_ty ?_⟩
    cases h
    rcases hT with rfl | rfl | rfl | rfl | rfl | rfl <;> decide +kernel
  | tup c =>
    obtain ⟨a, vs, rfl, s, _⟩ := r.tup
    have : TyX K H (.ref a) (.type "tuple") := by
      rcases s with (s | ⟨o, s⟩) | ⟨o, its, n, s, c, _⟩
      · exact .base (.tup s)
      · exact .fTuple s
      · exact .kTuple s c
    refine ⟨_, .inl this, kit_ty ?_⟩
    cases h
    rcases hT with rfl | rfl | rfl | rfl | rfl | rfl <;> decide +kernel
  | lst c =>
    obtain ⟨a, vs, rfl, s, _⟩ := r.lst
    refine ⟨_, .inl (.base (.lst s)), kit_ty ?_⟩
    cases h
    rcases hT with rfl | rfl | rfl | rfl | rfl | rfl <;> decide +kernel
  | dic c d =>
    obtain ⟨a, vs, u, rfl, s, d, _⟩ := r
    have : TyZ K H (.ref a) (.type "dict") := by
      rcases d.2 with ⟨kk, _, e⟩ | ⟨kk, _, e⟩
      · subst e
        rcases s with s | ⟨o, s⟩
        · exact .inl (.base (.dK s))
        · exact .inl (.fDict s)
      · subst e
        exact .inr ⟨rfl, a, _, rfl, s⟩
    refine ⟨_, this, kit_ty ?_⟩
    cases h
    rcases hT with rfl | rfl | rfl | rfl | rfl | rfl <;> decide +kernel
  | scr c => cases h
section
variable {X : Cx} {cl : Cls_} {W : WX} {rn : Rn} {pos : Pos}
/-- isinstance(x, T), T a built-in type -/
theorem de_isi {T : String} {x : Str} {p p2 : Pos} {a : Expr} {i : IE} (hT : Tys T) (hx : x = (T : Str)) (hg : Gl X "isinstance") (hm : X.mg "isinstance" = none) (hgT : Gl X x) (hmT : X.mg x = none) (hbT : bootBuiltins x = some (.type T)) (hnT : x ≠ "__name__") (hdT : (x == ("__debug__" : Str)) = false) (ha : DE X cl W a (evE rn i))
    (he1 : starEach [a, .Name x p2] X.env = (false, eval a X.env) :: starEach [.Name x p2] X.env) (he2 : starEach [.Name x p2] X.env = (false, eval (.Name x p2) X.env) :: starEach [] X.env) (hpl : (backTo pos (starEach [.Name x p2] X.env)).any (·.1) = false) :
    DE X cl W (.Call (.Name "isinstance" p) [a, .Name x p2] [] pos) (evE rn (.op (isiP T) (.cons i .nil))) := by
  refine PE.imp (pe_callB call_isZ hg hm (by decide +kernel) (pa_cons ha (pa_cons (pe_bltn (v := .ty T) hgT hmT hbT rfl hnT hdT) pa_nil he2) he1) (by decide) (by decide) he1 hpl) fun σ H Q h => ?_
  obtain ⟨m, B, e, S, hS, hE, h⟩ := h
  rw [ev_op1] at h
  refine tG_bind hS hE h fun d S1 m1 H1 v x1 hS1 hE1 r1 h1 eq1 => ?_
  unfold opK at h1
  cases q : vals S1 [d] with
  | none => rw [q] at h1; exact h1.elim
  | some xs =>
    rw [q] at h1
    dsimp only at h1
    obtain ⟨y, ys, rfl, e1, e2⟩ : ∃ y ys, xs = y :: ys ∧ val S1 d = some y ∧ ys = [] := by
      unfold vals at q
      cases q1 : val S1 d with
      | none => rw [q1] at q; cases q
      | some y => rw [q1] at q; cases q; exact ⟨y, [], rfl, rfl, rfl⟩
    subst e2
    dsimp only [isiP] at h1
    cases q2 : isTyP T y with
    | none => rw [q2] at h1; exact h1.elim
    | some b =>
      rw [q2] at h1
      obtain ⟨t, ty, k⟩ := tyx_of (r1.top hS1 e1) q2 hT
      exact ⟨v, .ty T, t, .type T, b, rfl, .ty T, ty, k, EndG.here h1 hS1 rfl⟩
/-! ### in range -/
theorem op_notin_rng : OpR X (compareOp .NotIn) (fun x y H Q => ∃ i a lo hi, x = V.int i ∧ y = V.ref a ∧ H a = some (.rng lo hi) ∧ Q (.bl (!decide (lo ≤ i ∧ i < hi))) H) := by
  intro pins s σ H x y v u Q I rx ry h
  obtain ⟨i, a, lo, hi, rfl, rfl, ha, q⟩ := h
  obtain ⟨k, rfl⟩ := rx
  obtain rfl : u = Value.ref a := ry
  obtain ⟨t1, t2, t3, ho⟩ := I.hok a _ ha
  show wpAny _ _ (do return Value.bool (! (← contains (Value.ref a) (Value.int i k)))) _ _ s
  refine wpAny_bind (wpAny_contains_slot (T := "range") ⟨_, ho, rfl⟩ F.slot_range_contains (call_meets F.slot_range_contains ⟨_, ho, rfl⟩ F.entry_range_contains (F.args_range_contains_2 _ _) (q_contains a lo hi i t1 t2 t3 k)
    ⟨ho, wpAny_truthy_bool (wpAny_pure ⟨.bl _, H, I, rfl, ?_⟩)⟩))
  rw [place1]
  exact q
theorem val_int' {S : Store} {d : D} {i : Int} (h : val S d = some (.int i)) : d = .p (.int i) := by
  cases d with
  | p x => cases h; rfl
  | ref l =>
    dsimp only [val] at h
    cases q : S[l]? with
    | none => rw [q] at h; cases h
    | some o => rw [q] at h; cases o <;> cases h
  | exc c fs => cases h
theorem vals3' {S : Store} {d e f : D} {xs : List P} (h : vals S [d, e, f] = some xs) : ∃ x y z, xs = [x, y, z] ∧ val S d = some x ∧ val S e = some y ∧ val S f = some z := by
  unfold vals vals vals vals at h
  cases q1 : val S d with
  | none => rw [q1] at h; cases h
  | some x =>
    cases q2 : val S e with
    | none => rw [q1, q2] at h; cases h
    | some y =>
      cases q3 : val S f with
      | none => rw [q1, q2, q3] at h; cases h
      | some z =>
        rw [q1, q2, q3] at h
        cases h
        exact ⟨x, y, z, rfl, rfl, rfl, rfl⟩
/-- x in range(a, b) -/
theorem rng_of {K : PySem.W.Frag} {neg : Bool} {f : List P → Option P} (hf : ∀ xs z, f xs = some z → ∃ i lo hi, xs = [.int i, .int lo, .int hi] ∧ z = .bl (if neg then !decide (lo ≤ i ∧ i < hi) else decide (lo ≤ i ∧ i < hi))) {i j k : IE} {σ : L2.St} {H : Hp} {Q : VK}
    (h : tG K cl W (rD K) (evE rn (.op f (.cons i (.cons j (.cons k .nil))))) σ H Q) :
    tOp (fun x y H Q => ∃ i a lo hi, x = V.int i ∧ y = V.ref a ∧ H a = some (.rng lo hi) ∧ Q (.bl (if neg then !decide (lo ≤ i ∧ i < hi) else decide (lo ≤ i ∧ i < hi))) H) (tG K cl W (rD K) (evE rn i))
      (tCB (fun vs H Q => ∃ i j, vs = [V.int i, V.int j] ∧ ∀ p, H p = none → Q (.ref p) (upd H p (.rng i j))) (tG K cl W (rDs K) (evEs rn (.cons j (.cons k .nil))))) σ H Q := by
  obtain ⟨m, B, e, S, hS, hE, h⟩ := h
  rw [ev_op3] at h
  refine tG_bind hS hE h fun d S1 m1 H1 v x1 hS1 hE1 r1 h1 eq1 => ?_
  have h1 : EndG K cl W (rD K) m1 B σ H1 ((evEs rn (.cons j (.cons k .nil)) e S1).bind fun ds S3 => opK f (d :: ds) S3) Q := by
    simp only [evEs, R.bind_assoc, R.bind_ok]
    exact h1
  refine tG_bind hS1 hE1 h1 fun ds S2 m2 H2 vs x2 hS2 hE2 r2 h2 eq2 => ?_
  have hl := evEs_len eq2
  obtain ⟨d2, d3, rfl⟩ : ∃ d2 d3, ds = [d2, d3] := by
    match ds, hl with
    | [d2, d3], _ => exact ⟨d2, d3, rfl⟩
  unfold opK at h2
  cases q : vals S2 [d, d2, d3] with
  | none => rw [q] at h2; exact h2.elim
  | some xs =>
    rw [q] at h2
    dsimp only at h2
    cases q2 : f xs with
    | none => rw [q2] at h2; exact h2.elim
    | some y =>
      rw [q2] at h2
      obtain ⟨ii, lo, hi, rfl, rfl⟩ := hf _ _ q2
      obtain ⟨x, y, z, e0, e1, e2, e3⟩ := vals3' q
      cases e0
      cases val_int' e1
      cases val_int' e2
      cases val_int' e3
      obtain ⟨w2, s2, rfl, t2, w3, s3, es, t3, es3⟩ := r2
      cases es3
      subst es
      cases t2
      cases t3
      cases r1
      refine ⟨lo, hi, rfl, fun p np => ⟨ii, p, lo, hi, rfl, rfl, upd_same, ?_⟩⟩
      exact h2 m2 _ _ (.same (Same.new np)) (hS2.same (Same.new np)) rfl
theorem de_inRange {p : Pos} {a b c : Expr} {i j k : IE} {pos2 : Pos} (hg : Gl X "range") (hm : X.mg "range" = none) (ha : DE X cl W a (evE rn i)) (hb : DA X cl W [b, c] (evEs rn (.cons j (.cons k .nil))))
    (he : starEach [b, c] X.env = (false, eval b X.env) :: starEach [c] X.env) (hpl : (backTo pos2 (starEach [c] X.env)).any (·.1) = false) (hmk : behindInMarks .In (.Call (.Name "range" p) [b, c] [] pos2) = false) :
    DE X cl W (.Compare a [.In] [.Call (.Name "range" p) [b, c] [] pos2] pos) (evE rn (.op inRangeP (.cons i (.cons j (.cons k .nil))))) :=
  PE.imp (pe_cmpR op_in_rng ha (pe_callTy cr_range2 hg hm boot_range hb (by decide) (by decide) he hpl) hmk) fun σ H Q h => rng_of (neg := false) (fun xs z hf => by
    unfold inRangeP at hf
    split at hf
    · cases hf; exact ⟨_, _, _, rfl, rfl⟩
    · cases hf) h
theorem dt_inRange {p : Pos} {a b c : Expr} {i j k : IE} {pos2 : Pos} (hg : Gl X "range") (hm : X.mg "range" = none) (ha : DE X cl W a (evE rn i)) (hb : DA X cl W [b, c] (evEs rn (.cons j (.cons k .nil))))
    (he : starEach [b, c] X.env = (false, eval b X.env) :: starEach [c] X.env) (hpl : (backTo pos2 (starEach [c] X.env)).any (·.1) = false) (hmk : behindInMarks .In (.Call (.Name "range" p) [b, c] [] pos2) = false) :
    DT X cl W (.Compare a [.In] [.Call (.Name "range" p) [b, c] [] pos2] pos) (evE rn (.op inRangeP (.cons i (.cons j (.cons k .nil))))) :=
  PT.imp (pt_cmpR op_in_rng ha (pe_callTy cr_range2 hg hm boot_range hb (by decide) (by decide) he hpl) hmk) fun σ H Q h => rng_of (neg := false) (fun xs z hf => by
    unfold inRangeP at hf
    split at hf
    · cases hf; exact ⟨_, _, _, rfl, rfl⟩
    · cases hf) (test_of h)
theorem dt_notInRange {p : Pos} {a b c : Expr} {i j k : IE} {pos2 : Pos} (hg : Gl X "range") (hm : X.mg "range" = none) (ha : DE X cl W a (evE rn i)) (hb : DA X cl W [b, c] (evEs rn (.cons j (.cons k .nil))))
    (he : starEach [b, c] X.env = (false, eval b X.env) :: starEach [c] X.env) (hpl : (backTo pos2 (starEach [c] X.env)).any (·.1) = false) (hmk : behindInMarks .NotIn (.Call (.Name "range" p) [b, c] [] pos2) = false) :
    DT X cl W (.Compare a [.NotIn] [.Call (.Name "range" p) [b, c] [] pos2] pos) (evE rn (.op notInRangeP (.cons i (.cons j (.cons k .nil))))) :=
  PT.imp (pt_cmpR op_notin_rng ha (pe_callTy cr_range2 hg hm boot_range hb (by decide) (by decide) he hpl) hmk) fun σ H Q h => rng_of (neg := true) (fun xs z hf => by
    unfold notInRangeP at hf
    split at hf
    · cases hf; exact ⟨_, _, _, rfl, rfl⟩
    · cases hf) (test_of h)
end
end DL

set_option maxRecDepth 100000
set_option maxHeartbeats 1000000
/-! DOpV: new lists by + and *, None, += -/
namespace DL
open PySem PySem.Spec PyProof.Rows L2
section
variable {K : PySem.W.Frag}
theorem of_cat : OpF K (rOf2 rCat) catP := by
  intro H pr xs vs y Q hp hr hf hq v w e
  unfold catP at hf
  split at hf
  · rename_i a b
    split at hf
    · rename_i hc
      cases hf
      rw [line_eq] at hc
      obtain ⟨v1, w1, e1, r1, r2⟩ := repTs2 hr
      rw [e] at e1
      cases e1
      obtain ⟨l1, vs1, rfl, s1, p1⟩ := r1.lst
      obtain ⟨l2, vs2, rfl, s2, p2⟩ := r2.lst
      exact ⟨l1, l2, vs1, vs2, rfl, rfl, s1, s2, by rw [← p1.len, ← p2.len]; exact hc, fun p np => hq.lst (p1.append p2) np⟩
    · cases hf
  · cases hf
theorem catP_lst : ∀ xs y, catP xs = some y → (∃ xs, y = .lst xs) ∨ (∃ ks xs, y = .dic ks xs) := by
  intro xs y h
  unfold catP at h
  split at h
  · split at h
    · cases h; exact .inl ⟨_, rfl⟩
    · cases h
  · cases h
theorem of_rep : OpF K (rOf2 rRep) repP := by
  intro H pr xs vs y Q hp hr hf hq v w e
  unfold repP at hf
  split at hf
  · rename_i a b
    split at hf
    · rename_i hc
      cases hf
      rw [line_eq] at hc
      obtain ⟨v1, w1, e1, r1, r2⟩ := repTs2 hr
      rw [e] at e1
      cases e1
      obtain ⟨l1, vs1, rfl, s1, p1⟩ := r1.lst
      exact ⟨l1, _, vs1, rfl, r2.int, s1, hc.1, hc.2.1, by rw [← p1.len]; exact hc.2.2, fun p np => hq.lst (p1.rep _) np⟩
    · cases hf
  · cases hf
theorem repP_lst : ∀ xs y, repP xs = some y → (∃ xs, y = .lst xs) ∨ (∃ ks xs, y = .dic ks xs) := by
  intro xs y h
  unfold repP at h
  split at h
  · split at h
    · cases h; exact .inl ⟨_, rfl⟩
    · cases h
  · cases h
theorem isN_two {f : List P → Option P} {g : Bool → Bool} (hf : ∀ x z, f [x, .non] = some z → z = .bl (g (decide (x = .non)))) (h2 : ∀ xs z, f xs = some z → ∃ x, xs = [x, .non]) : OpV K (rOf2 fun x y H Q => y = .non ∧ Q (.bl (g (decide (x = .non)))) H) f := .two (fun H pr x y v w z Q hp r1 r2 h hq => by
  obtain ⟨x', e⟩ := h2 _ _ h
  cases e
  have e := hf _ _ h
  subst e
  refine ⟨r2, ?_⟩
  have : decide (v = V.non) = decide (x = P.non) := by
    rw [Bool.eq_iff_iff]
    simp only [decide_eq_true_eq]
    exact r1.isnone
  rw [this]
  exact hq H _ (Same.refl _) rfl) fun xs z h => by
  obtain ⟨x, rfl⟩ := h2 _ _ h
  exact ⟨_, _, rfl⟩
theorem ov_isN : OpV K (rOf2 fun x y H Q => y = .non ∧ Q (.bl (decide (x = .non))) H) isP := isN_two (g := id) (fun x z h => isNoneP_eq h) fun xs z h => by
  unfold isP at h
  split at h
  · exact ⟨_, rfl⟩
  · cases h
theorem ov_notN : OpV K (rOf2 fun x y H Q => y = .non ∧ Q (.bl (!decide (x = .non))) H) isNotP := isN_two (g := fun b => !b) (fun x z h => notNoneP_eq h) fun xs z h => by
  unfold isNotP at h
  split at h
  · exact ⟨_, rfl⟩
  · cases h
theorem ov_iadd : OpV K (rOf2 (ipI fun i j => i + j)) (fun xs => match xs with | [.int a, .int b] => some (.int (a + b)) | _ => none) := .two (fun H pr x y v w z Q hp r1 r2 hf hq => by
  split at hf
  · rename_i e
    cases e
    cases hf
    exact ⟨_, _, r1.int, r2.int, hq H _ (Same.refl _) rfl⟩
  · cases hf) fun xs z h => by
  split at h
  · exact ⟨_, _, rfl⟩
  · cases h
end
end DL

set_option maxRecDepth 100000
set_option maxHeartbeats 1000000
/-! DM: changes of objects -/
namespace DL
open PySem PySem.Spec PyProof.Rows L2
/-- what stands at an address, for an object of the store -/
def RepU (K : PySem.W.Frag) (H : Hp) (m : Mp) (B : Addr → Prop) (u : HO) : O → Prop
  | .lst xs => ∃ vs, u = .lst vs ∧ Reps K H (Pr m B) xs vs
  | .dic kvs => ∃ vs, DicO (kvs.map (·.1)) vs u ∧ Reps K H (Pr m B) (kvs.map (·.2)) vs
  | .dir kvs => ∃ vs, DicO (kvs.map (·.1)) vs u ∧ RepDs K H m B (kvs.map fun p => .ref p.2) vs
  | .dead => False
section
variable {K : PySem.W.Frag} {H : Hp} {m : Mp} {B : Addr → Prop} {S : Store} {a : Addr} {l : Nat} {o o' : O} {u u' : HO}
theorem repO_u (h : RepO K H m B a o) : ∃ u, H a = some u ∧ RepU K H m B u o := by
  cases o with
  | lst xs => obtain ⟨vs, e, r⟩ := h; exact ⟨_, e, vs, rfl, r⟩
  | dic kvs => obtain ⟨vs, u, e, d, r⟩ := h; exact ⟨u, e, vs, d, r⟩
  | dir kvs => obtain ⟨vs, u, e, d, r⟩ := h; exact ⟨u, e, vs, d, r⟩
  | dead => exact h.elim
theorem repU_o (h : RepU K H m B u o) (e : H a = some u) : RepO K H m B a o := by
  cases o with
  | lst xs => obtain ⟨vs, rfl, r⟩ := h; exact ⟨vs, e, r⟩
  | dic kvs => obtain ⟨vs, d, r⟩ := h; exact ⟨vs, u, e, d, r⟩
  | dir kvs => obtain ⟨vs, d, r⟩ := h; exact ⟨vs, u, e, d, r⟩
  | dead => exact h.elim
/-- lists and dicts alone change -/
def Chg (u : HO) : Prop := (∃ vs, u = .lst vs) ∨ (∃ kvs, u = .dK kvs) ∨ ∃ kvs, u = .dT kvs
theorem RepU.chg (h : RepU K H m B u o) : Chg u := by
  cases o with
  | lst xs => obtain ⟨vs, rfl, r⟩ := h; exact .inl ⟨_, rfl⟩
  | dic kvs => obtain ⟨vs, d, r⟩ := h; exact d.2.elim (fun ⟨_, _, e⟩ => .inr (.inl ⟨_, e⟩)) fun ⟨_, _, e⟩ => .inr (.inr ⟨_, e⟩)
  | dir kvs => obtain ⟨vs, d, r⟩ := h; exact d.2.elim (fun ⟨_, _, e⟩ => .inr (.inl ⟨_, e⟩)) fun ⟨_, _, e⟩ => .inr (.inr ⟨_, e⟩)
  | dead => exact h.elim
theorem Chg.notup (h : Chg u) (e : H a = some u) {b : Addr} {xs : List V} (r : Rd H b (.tup xs)) : b ≠ a := fun z => by
  subst z
  rcases h with ⟨vs, rfl⟩ | ⟨vs, rfl⟩ | ⟨vs, rfl⟩ <;> rcases r with r | ⟨o, r⟩ <;> rw [e] at r <;> cases r
theorem mono_put {pr : Addr → Prop} (hp : pr a) (c : Chg u) (e : H a = some u) : (∀ b o, ¬ pr b → H b = some o → (upd H a u') b = some o ∧ ¬ pr b) ∧ ∀ b ys, Rd H b (.tup ys) → Rd (upd H a u') b (.tup ys) := by
  refine ⟨fun b o n r => ⟨(upd_ne (fun z => n (by rw [z]; exact hp))).trans r, n⟩, fun b ys r => ?_⟩
  have n := c.notup e r
  rcases r with r | ⟨o, r⟩
  · exact .inl ((upd_ne n).trans r)
  · exact .inr ⟨o, (upd_ne n).trans r⟩
theorem put_ext (am : some a ∈ m) (c : Chg u) (e : H a = some u) : Ext m H m (upd H a u') where
  len := Nat.le_refl _
  keep := fun _ _ e => .inl e
  obj := fun b o n r => ⟨(upd_ne (fun z => n (by rw [z]; exact am))).trans r, n⟩
  tup := (mono_put (pr := fun b => some b ∈ m) am c e).2
  dom := fun b h => by
    by_cases z : b = a
    · subst z; rw [upd_same]; exact fun z => nomatch z
    · rw [upd_ne z]; exact h
theorem RepDs.put (am : Pr m B a) (c : Chg u) (e : H a = some u) : ∀ {ds : List D} {vs : List V}, RepDs K H m B ds vs → RepDs K (upd H a u') m B ds vs
  | [], vs, h => h
  | d :: r, vs, h => by
    obtain ⟨v, s, rfl, h1, h2⟩ := h
    refine ⟨v, s, rfl, ?_, RepDs.put am c e h2⟩
    cases d with
    | p x => exact Rep.mono (mono_put am c e).1 (mono_put am c e).2 _ _ h1
    | ref l => exact h1
    | exc c fs => exact h1
theorem RepU.put {w : HO} (am : Pr m B a) (c : Chg u) (e : H a = some u) (h : RepU K H m B w o) : RepU K (upd H a u') m B w o := by
  have g := mono_put (u' := u') am c e
  cases o with
  | lst xs => obtain ⟨vs, rfl, r⟩ := h; exact ⟨vs, rfl, Reps.mono g.1 g.2 _ _ r⟩
  | dic kvs => obtain ⟨vs, d, r⟩ := h; exact ⟨vs, d, Reps.mono g.1 g.2 _ _ r⟩
  | dir kvs => obtain ⟨vs, d, r⟩ := h; exact ⟨vs, d, r.put am c e⟩
  | dead => exact h.elim
theorem put_rel (r : RelS K m B S H) (hl : m[l]? = some (some a)) (c : Chg u) (e : H a = some u) (h : RepU K H m B u' o') : RelS K m B (S.set l o') (upd H a u') where
  len := by simp [r.len]
  inj := r.inj
  ob := fun i b ei => by
    have am : Pr m B a := .inl (List.mem_of_getElem? hl)
    by_cases hi : l = i
    · subst hi
      rw [hl] at ei
      cases ei
      refine ⟨o', ?_, repU_o (h.put am c e) upd_same⟩
      rw [List.getElem?_set_self]
      rw [← r.len]
      exact (List.getElem?_eq_some_iff.mp hl).1
    · obtain ⟨o, q, q2⟩ := r.ob i b ei
      refine ⟨o, by rw [List.getElem?_set_ne hi, q], ?_⟩
      obtain ⟨w, ew, rw_⟩ := repO_u q2
      have n : b ≠ a := fun z => hi (r.inj l i a hl (z ▸ ei))
      exact repU_o (rw_.put am c e) ((upd_ne n).trans ew)
  dead := fun i ei => by
    have hi : l ≠ i := fun z => by subst z; rw [hl] at ei; cases ei
    rw [List.getElem?_set_ne hi, r.dead i ei]
  bd := fun b z => by
    have n : b ≠ a := fun w => (r.bd b z).2 (w ▸ List.mem_of_getElem? hl)
    rw [upd_ne n]
    exact r.bd b z
end
/-- a method's rule changes an object as g says -/
def OpM (K : PySem.W.Frag) (r : V → List V → Hp → VK → Prop) (T : String) (g : Mu) : Prop :=
  ∀ (H : Hp) (m : Mp) (B : Addr → Prop) (a : Addr) (o o' : O) (u : HO) (ys : List P) (ws : List V) (y : P) (Q : VK), H a = some u → RepU K H m B u o → (∃ x, oval o = some x ∧ isTy T x = true) → Reps K H (Pr m B) ys ws → g o ys = some (o', y) →
    (∀ u' v, RepU K H m B u' o' → Rep K H (Pr m B) y v → Q v (upd H a u')) → r (.ref a) ws H Q
/-- a store by an index -/
def OpSet (K : PySem.W.Frag) (t : V → V → V → Hp → (Hp → Prop) → Prop) (g : Mu) : Prop :=
  ∀ (H : Hp) (m : Mp) (B : Addr → Prop) (a : Addr) (o o' : O) (u : HO) (k y z : P) (kv yv : V) (Q : Hp → Prop), H a = some u → RepU K H m B u o → Rep K H (Pr m B) k kv → Rep K H (Pr m B) y yv → g o [k, y] = some (o', z) →
    (∀ u', RepU K H m B u' o' → Q (upd H a u')) → t (.ref a) kv yv H Q
section
variable {X : Cx} {cl : Cls_} {W : WX} {rn : Rn} {w : Nat} {pos : Pos}
theorem ref_at {K : PySem.W.Frag} {H : Hp} {m : Mp} {B : Addr → Prop} {S : Store} {l : Nat} {v : V} (rs : RelS K m B S H) (rd : RepD K H m B (.ref l) v) {o : O} (e : S[l]? = some o) (h : o ≠ .dead) : ∃ a u, m[l]? = some (some a) ∧ v = .ref a ∧ H a = some u ∧ RepU K H m B u o := by
  dsimp only [RepD] at rd
  cases z : m[l]? with
  | none => rw [z] at rd; exact rd.elim
  | some y =>
    rw [z] at rd
    cases y with
    | none =>
      have := rs.dead l z
      rw [e] at this
      cases this
      exact absurd rfl h
    | some a =>
      subst rd
      obtain ⟨o2, q1, q2⟩ := rs.ob l a z
      rw [e] at q1
      cases q1
      obtain ⟨u, eu, ru⟩ := repO_u q2
      exact ⟨a, u, rfl, rfl, eu, ru⟩
def muK (rn : Rn) (T : P → Bool) (g : Mu) (is : IEs) (e : Env) (d : D) (S1 : Store) : R D :=
  match val S1 d with
    | some x => if T x then (evEs rn is e S1).bind fun ds S2 =>
        (match pures ds with
        | some xs => mutD g d xs S2
        | none => .no) else .no
    | none => .no
theorem ev_mut (T : P → Bool) (g : Mu) (i : IE) (is : IEs) (e : Env) (S : Store) : evE rn (.mut T g i is) e S = (evE rn i e S).bind fun d S1 => muK rn T g is e d S1 := by
  simp only [evE]
  rfl
theorem mu_open {K : PySem.W.Frag} {m : Mp} {B : Addr → Prop} {σ : L2.St} {H : Hp} {S1 : Store} {d : D} {T : P → Bool} {g : Mu} {is : IEs} {e : Env} {Q : VK} (h : EndG K cl W (rD K) m B σ H (muK rn T g is e d S1) Q) :
    ∃ x, val S1 d = some x ∧ T x = true ∧ EndG K cl W (rD K) m B σ H ((evEs rn is e S1).bind fun ds S2 => match pures ds with | some xs => mutD g d xs S2 | none => .no) Q := by
  unfold muK at h
  cases q : val S1 d with
  | none => rw [q] at h; exact h.elim
  | some x =>
    rw [q] at h
    dsimp only at h
    by_cases t : T x = true
    · rw [if_pos t] at h
      exact ⟨x, rfl, t, h⟩
    · rw [if_neg t] at h
      exact h.elim
theorem mut_fin {K : PySem.W.Frag} {m : Mp} {B : Addr → Prop} {σ : L2.St} {H : Hp} {S : Store} {d : D} {v : V} {ds : List D} {vs : List V} {g : Mu} {r : V → List V → Hp → VK → Prop} {T : String} {Q : VK} (hm : OpM K r T g) (hT : ∀ o ys o' y, g o ys = some (o', y) → ∃ x, oval o = some x ∧ isTy T x = true) (rs : RelS K m B S H) (rd : RepD K H m B d v) (rds : RepDs K H m B ds vs)
    (h : EndG K cl W (rD K) m B σ H (match pures ds with | some xs => mutD g d xs S | none => .no) Q) : r v vs H Q := by
  cases q : pures ds with
  | none => rw [q] at h; exact h.elim
  | some xs =>
    rw [q] at h
    dsimp only at h
    cases d with
    | p x => exact h.elim
    | exc c fs => exact h.elim
    | ref l =>
      simp only [mutD] at h
      cases q2 : S[l]? with
      | none => rw [q2] at h; exact h.elim
      | some o =>
        rw [q2] at h
        dsimp only at h
        cases q3 : g o xs with
        | none => rw [q3] at h; exact h.elim
        | some oy =>
          rw [q3] at h
          obtain ⟨o', y⟩ := oy
          have ov := hT o xs o' y q3
          have nd : o ≠ .dead := fun e => by
            obtain ⟨x, e1, _⟩ := ov
            rw [e] at e1
            cases e1
          obtain ⟨a, u, ea, rfl, eu, ru⟩ := ref_at rs rd q2 nd
          refine hm H m B a o o' u xs vs y Q eu ru ov (rds.pure q) q3 fun u' v' ru' rv => ?_
          have am : some a ∈ m := List.mem_of_getElem? ea
          have x := put_ext (u' := u') am ru.chg eu
          exact h m _ v' x (put_rel rs ea ru.chg eu ru') (x.rep rv)
theorem de_mut {T id : String} {name : Str} {o a : Expr} {es : List Expr} {i : IE} {is : IEs} {apos : Pos} {r : V → List V → Hp → VK → Prop} {g : Mu} (hTd : T ≠ "dict") (pa : PlainAttrs T) (slot : Slot T name id) (hty : typeOf (.builtin id) = pure (.type "method_descriptor")) (hm : MtR X id r) (hv : OpM X.K r T g) (hT : ∀ o ys o' y, g o ys = some (o', y) → ∃ x, oval o = some x ∧ isTy T x = true)
    (ho : DE X cl W o (evE rn i)) (ha : DA X cl W (a :: es) (evEs rn is)) (hbase : attributeBase o name X.env (eval o X.env) = eval o X.env)
    (hfew : ((backTo pos (starEach (a :: es) X.env)).all (fun x => !x.1) && (backToKw pos (keywordEach [] X.env)).all (fun x => x.1.isSome)
      && decide ((a :: es).length + ([] : List Keyword).length + (if ([] : List Keyword).isEmpty then 0 else 1) < 30)) = true)
    (hline : (apos.endLine == pos.line) = true) (hs : starEach (a :: es) X.env = (false, eval a X.env) :: starEach es X.env) (hplain : (backTo pos (starEach es X.env)).any (·.1) = false) :
    DE X cl W (.Call (.Attribute o name apos) (a :: es) [] pos) (evE rn (.mut (isTy T) g i is)) := PE.imp (pe_bm pa slot hty hm ho ha hbase hfew hline hs hplain) fun σ H Q h => by
  obtain ⟨m, B, e, S, hS, hE, h⟩ := h
  rw [ev_mut] at h
  refine tG_bind hS hE h fun d S1 m1 H1 v x1 hS1 hE1 r1 h1 eq1 => ?_
  obtain ⟨x, q, t, h1⟩ := mu_open h1
  refine ⟨tyV_top (r1.top hS1 q) t (fun ks xs e => by subst e; exact absurd (of_decide_eq_true t) hTd), ?_⟩
  refine tG_bind hS1 hE1 h1 fun ds S2 m2 H2 vs x2 hS2 hE2 r2 h2 eq2 => ?_
  exact mut_fin hv hT hS2 (x2.repD r1) r2 h2
theorem de_mut0 {T id : String} {name : Str} {o : Expr} {i : IE} {apos : Pos} {r : V → List V → Hp → VK → Prop} {g : Mu} (hTd : T ≠ "dict") (pa : PlainAttrs T) (slot : Slot T name id) (hty : typeOf (.builtin id) = pure (.type "method_descriptor")) (hm : MtR X id r) (hv : OpM X.K r T g) (hT : ∀ o ys o' y, g o ys = some (o', y) → ∃ x, oval o = some x ∧ isTy T x = true)
    (ho : DE X cl W o (evE rn i)) (hbase : attributeBase o name X.env (eval o X.env) = eval o X.env) (hline : (apos.endLine == pos.line) = true) :
    DE X cl W (.Call (.Attribute o name apos) [] [] pos) (evE rn (.mut (isTy T) g i .nil)) := PE.imp (pe_bm0 pa slot hty hm ho hbase hline) fun σ H Q h => by
  obtain ⟨m, B, e, S, hS, hE, h⟩ := h
  rw [ev_mut] at h
  refine tG_bind hS hE h fun d S1 m1 H1 v x1 hS1 hE1 r1 h1 eq1 => ?_
  obtain ⟨x, q, t, h1⟩ := mu_open h1
  refine ⟨tyV_top (r1.top hS1 q) t (fun ks xs e => by subst e; exact absurd (of_decide_eq_true t) hTd), ?_⟩
  simp only [evEs, R.bind_ok] at h1
  exact mut_fin (ds := []) (vs := []) hv hT hS1 r1 rfl h1
/-- a[k] = v -/
theorem ds_sub {a k v : Expr} {i j n : IE} {spos : Pos} {t : V → V → V → Hp → (Hp → Prop) → Prop} {g : Mu} (hset : PSet X t) (hv : OpSet X.K t g) (hd : ∀ o ys, g o ys = none ∨ o ≠ .dead) (hval : DE X cl W v (evE rn n)) (ha : DE X cl W a (evE rn i)) (hk : DE X cl W k (evE rn j))
    (hsub : ∀ v, assign (.Subscript a k spos) X.env v = (do
      let ov ← holding [v] (eval a X.env)
      let iv ← holding [v, ov] (eval k X.env)
      standAt spos
      holding [v, ov, iv] (setItem ov iv v)
      release [v, ov, iv] []))
    (hs : swapsWithSole [.Subscript a k spos] v pos.line X.env = pure false) (hw : swappedStores [.Subscript a k spos] v X.env = pure none) (h1 : (assignEach [.Subscript a k spos] X.env).map (·.2) = [assign (.Subscript a k spos) X.env]) :
    DS X cl W (.Assign [.Subscript a k spos] v pos) (evS rn w (.sub g i j n)) := PS.imp (ps_asg hval (pg_sub ha hk hset hsub) hs hw h1) fun D σ H h => by
  obtain ⟨m, B, e, S, hS, hE, h⟩ := h
  simp only [evS] at h
  refine tS_bind hS hE h fun d1 S1 m1 H1 v1 x1 hS1 hE1 r1 h1 eq1 => ?_
  show gSub _ _ _ v1 σ H1 D.nx
  refine tS_bind hS1 hE1 h1 fun d2 S2 m2 H2 v2 x2 hS2 hE2 r2 h2 eq2 => ?_
  refine tS_bind hS2 hE2 h2 fun d3 S3 m3 H3 v3 x3 hS3 hE3 r3 h3 eq3 => ?_
  cases d1 with
  | ref l => exact h3.elim
  | exc c fs => exact h3.elim
  | p y =>
    cases d3 with
    | ref l => exact h3.elim
    | exc c fs => exact h3.elim
    | p x =>
      dsimp only at h3
      cases d2 with
      | p z => exact h3.elim
      | exc c fs => exact h3.elim
      | ref l =>
        simp only [mutD] at h3
        cases q2 : S3[l]? with
        | none => rw [q2] at h3; exact h3.elim
        | some o =>
          rw [q2] at h3
          dsimp only at h3
          cases q3 : g o [x, y] with
          | none => rw [q3] at h3; exact h3.elim
          | some oy =>
            rw [q3] at h3
            obtain ⟨o', z⟩ := oy
            have nd : o ≠ .dead := (hd o [x, y]).resolve_left (by rw [q3]; exact fun z => nomatch z)
            obtain ⟨b, u, ea, rfl, eu, ru⟩ := ref_at hS3 (x3.repD r2) q2 nd
            refine hv H3 m3 B b o o' u x y z v3 v1 _ eu ru r3 ((x2.trans x3).repD r1) q3 fun u' ru' => ?_
            have am : some b ∈ m3 := List.mem_of_getElem? ea
            have xx := put_ext (u' := u') am ru.chg eu
            exact h3 m3 _ σ xx (put_rel hS3 ea ru.chg eu ru') (xx.relE hE3)
end
/-! ### lists -/
section
variable {K : PySem.W.Frag}
theorem om_append : OpM K rAppend "list" appendM := by
  intro H m B a o o' u ys ws y Q eu ru hT rys hg hq
  unfold appendM at hg
  split at hg
  · rename_i xs z
    split at hg
    · rename_i hc
      cases hg
      obtain ⟨vs, rfl, rp⟩ := ru
      obtain ⟨v, s, rfl, rv, rs⟩ := Reps.cons_iff.mp rys
      rw [Reps.nil_iff] at rs
      subst rs
      refine ⟨a, vs, v, rfl, rfl, eu, by rw [← rp.len, ← line_eq]; exact hc, ?_⟩
      exact hq _ _ ⟨_, rfl, rp.append (Reps.one rv)⟩ rfl
    · cases hg
  · cases hg
theorem appendM_ty : ∀ o ys o' y, appendM o ys = some (o', y) → ∃ x, oval o = some x ∧ isTy "list" x = true := by
  intro o ys o' y h
  unfold appendM at h
  split at h
  · exact ⟨_, rfl, by simp [isTy]⟩
  · cases h
theorem oset_list : OpSet K rSetL setM := by
  intro H m B a o o' u k y z kv yv Q eu ru rk ry hg hq
  unfold setM at hg
  split at hg
  · rename_i xs i y' e
    cases e
    split at hg
    · rename_i j hj
      cases hg
      obtain ⟨vs, rfl, rp⟩ := ru
      refine ⟨a, vs, i, j, rfl, rk, eu, by rw [← rp.len]; exact hj, ?_⟩
      exact hq _ ⟨_, rfl, rp.set ry j⟩
    · cases hg
  · cases hg
theorem setM_nd : ∀ o ys, setM o ys = none ∨ o ≠ .dead := by
  intro o ys
  cases o with
  | dead => exact .inl rfl
  | _ => exact .inr fun z => nomatch z
theorem mt_appendR {X : Cx} : MtR X "list.append" rAppend := mt_append
end
end DL

set_option maxRecDepth 100000
set_option maxHeartbeats 1000000
/-! DX1: x[::-1], sorted, what is never come to -/
namespace DL
open PySem PySem.Spec PyProof.Rows L2
/-! ### never -/
theorem ds_never {X : Cx} {cl : Cls_} {W : WX} {rn : Rn} {w : Nat} {st : Stmt} : DS X cl W st (evS rn w irNo) := PS.imp ps_never fun D σ H h => by
  obtain ⟨m, B, e, S, hS, hE, h⟩ := h
  simp only [irNo, evS, evE, evEs, R.bind_ok, vals, R.go_no] at h
  exact h.elim
/-! ### x[::-1] -/
def revS (z : Str) : Str := ⟨z.cps.toList.reverse.toArray⟩
def rRev (K : PySem.W.Frag) : V → Hp → VK → Prop := fun x H Q => (∃ z, x = .str z ∧ z.length ≤ sizeLine ∧ Q (.str (revS z)) H) ∨ ∃ a xs, x = .ref a ∧ SqL K H a xs ∧ ∀ p, H p = none → Q (.ref p) (upd H p (.lst xs.reverse))
theorem rev_pick (z : Str) : ((Builtin.Str.strSliceIndices none none (-1) z.length).filterMap (z.cps[·]?)).toArray = z.cps.toList.reverse.toArray := by
  congr 1
  rw [picked_rev, filterMap_get]
  · rw [List.map_map]
    apply List.ext_getElem
    · simp [Str.length]
    · intro i h1 h2
      simp [Str.length] at h1 ⊢
      rw [Array.getElem?_eq_getElem (by omega)]
      simp
  · intro i hi
    obtain ⟨k, hk, rfl⟩ := List.mem_map.mp hi
    have hk' : k < z.length := List.mem_range.mp hk
    show z.length - 1 - k < z.length
    omega
theorem pe_revA {X : Cx} {e : Expr} {te : TE} {k : Nat} {p1 p2 p3 pos : Pos} (he : PE X e te) : PE X (.Subscript e (.Slice none none (some (.UnaryOp .USub (.Constant (.int 1) k p1) p2)) p3) pos) (fun σ H Q => te σ H fun x H1 => rRev X.K x H1 Q) := by
  refine ⟨fun pins s σ H Q I h => ?_⟩
  refine Subscript_ (thn (he.run pins s σ H _ I h) fun v s1 ⟨x, H1, I1, r1, q1⟩ => ?_)
  have hst : PO X (some (.UnaryOp .USub (.Constant (.int 1) k p1) p2)) (tPart (tUn (rU fun i => .int (-i)) (tC (.int 1)))) := po_some (pe_un un_neg pe_int)
  refine wpAny_Slice (thn (po_none.run pins s1 σ H1 (fun o H2 => o = none ∧ H2 = H1) I1 ⟨rfl, rfl⟩) fun vl s2 ⟨l, H2, I2, pl, el, e2⟩ => ?_)
  subst el e2
  refine thn (po_none.run pins s2 σ H2 (fun o H3 => o = none ∧ H3 = H2) I2 ⟨rfl, rfl⟩) fun vu s3 ⟨u, H3, I3, pu, eu, e3⟩ => ?_
  subst eu e3
  refine thn (hst.run pins s3 σ H3 (fun o H4 => o = some (-1) ∧ H4 = H3) I3 ⟨1, rfl, -1, rfl, rfl, rfl⟩) fun vs s4 ⟨o, H4, I4, ps, eo, e4⟩ => ?_
  subst eo e4
  have I5 : Inv X pins σ H4 { s4 with heap := s4.heap.push { cls := .type "slice", data := .fields #[vl, vu, vs] } } := I4.kept (t' := s4.toks) fun b ob q => Heap.get?_push_of_some _ q
  rcases q1 with ⟨z, ex, hz, q⟩ | ⟨a, xs, ex, hx, q⟩
  · subst ex
    obtain ⟨t, rfl⟩ := r1
    obtain ⟨l, rfl, el⟩ := IsPart.raw pl
    obtain ⟨u, rfl, eu⟩ := IsPart.raw pu
    obtain ⟨st, rfl, es⟩ := IsPart.raw ps
    cases l with
    | some _ => cases el
    | none =>
    cases u with
    | some _ => cases eu
    | none =>
    cases st with
    | none => cases es
    | some st =>
    obtain ⟨si, stk⟩ := st
    cases es
    show wpAny (model X.prog X.w) X.A (subscriptTail e (.Slice none none (some (.UnaryOp .USub (.Constant (.int 1) k p1) p2)) p3) (.str z t) (.ref s4.heap.objs.size)) (EP X pins σ Q) X.xe { s4 with heap := s4.heap.push { cls := .type "slice", data := .fields #[partValue none, partValue none, partValue (some (-1, stk))] } }
    refine tail_any (ops := [.str z t, .ref s4.heap.objs.size]) (typeIs_str _ _ _) F.slot_str_getitem.lookup ?_ (by with_unfolding_all rfl)
    refine wpAny_getItem_str_slice (l := none) (u := none) (st := some (-1, stk)) (Heap.IsSliceOf.new _ _ _ _) rfl ?_
    have e0 : (sliceMade z t none none (some (-1, stk))) = Made.str (revS z) := by
      unfold sliceMade slicePicked revS
      rw [← rev_pick]
      rfl
    rw [e0]
    refine ⟨?_, .str (revS z), H4, I5.tok _, ⟨_, rfl⟩, q⟩
    have : (revS z).length = z.length := by simp [revS, Str.length]
    omega
  · subst ex
    cases r1
    obtain ⟨its, r, ht, hz⟩ := I5.list hx
    have hlen := r.length
    show wpAny (model X.prog X.w) X.A (subscriptTail e (.Slice none none (some (.UnaryOp .USub (.Constant (.int 1) k p1) p2)) p3) (.ref a) (.ref s4.heap.objs.size)) (EP X pins σ Q) X.xe { s4 with heap := s4.heap.push { cls := .type "slice", data := .fields #[vl, vu, vs] } }
    refine tail_any (ops := [.ref a, .ref s4.heap.objs.size]) ht.isList.typeIs (PySem.slot_list_getitem.lookup) ?_ (by with_unfolding_all rfl)
    refine wpAny_getItem_list_slice ht.isList (Heap.IsSliceOf.new _ vl vu vs) pl pu ps (by decide) ?_ (by rw [List.size_toArray]; omega)
    rw [PySem.W.krv_pick]
    refine ⟨.ref _, _, I5.laid (t' := s4.toks) (o := .lst xs.reverse) (fun b ob q => Heap.get?_push_of_some _ q) (Nat.le_refl _) ?_, rfl, q _ (I5.hok.fresh (Nat.le_refl _))⟩
    exact ⟨by rw [List.length_reverse]; exact hz, _, 0, r.reverse, Heap.get?_push_size _ rfl⟩
theorem Reps.rev {K : PySem.W.Frag} {H : Hp} {pr : Addr → Prop} : ∀ {xs : List P} {vs : List V}, Reps K H pr xs vs → Reps K H pr xs.reverse vs.reverse
  | [], vs, h => by
    rw [Reps.nil_iff] at h
    subst h
    exact Reps.nil_iff.mpr rfl
  | x :: xs, vs, h => by
    obtain ⟨v, s, rfl, r1, r2⟩ := Reps.cons_iff.mp h
    rw [List.reverse_cons, List.reverse_cons]
    exact (Reps.rev r2).append (Reps.cons_iff.mpr ⟨v, [], rfl, r1, Reps.nil_iff.mpr rfl⟩)
theorem ov_rev {K : PySem.W.Frag} : OpV K (rOf1 (rRev K)) revP := .one (fun H pr x v z Q hp r1 hf hq => by
  unfold revP at hf
  split at hf
  · rename_i e
    cases e
    cases hf
    obtain ⟨rfl, o⟩ := r1.str
    refine .inl ⟨_, rfl, by rw [len_strV]; exact o.1, ?_⟩
    refine hq H _ (Same.refl _) ⟨by simp [revS, strV], ?_⟩
    exact ⟨by rw [List.length_reverse]; exact o.1, fun c hc => o.2 c (List.mem_reverse.mp hc)⟩
  · rename_i xs e
    cases e
    cases hf
    obtain ⟨a, vs, rfl, s, rp⟩ := r1.lst
    refine .inr ⟨a, vs, rfl, .of s, fun p np => ?_⟩
    exact hq _ _ (Same.new np) ⟨p, vs.reverse, rfl, fun z => hp p z np, upd_same, rp.rev.same (Same.new np)⟩
  · cases hf) fun xs z hf => one1 hf rfl fun _ _ _ => by simp [revP]
section
variable {X : Cx} {cl : Cls_} {W : WX} {rn : Rn} {pos : Pos}
theorem de_rev {a : Expr} {i : IE} {k : Nat} {p1 p2 p3 : Pos} (ha : DE X cl W a (evE rn i)) : DE X cl W (.Subscript a (.Slice none none (some (.UnaryOp .USub (.Constant (.int 1) k p1) p2)) p3) pos) (evE rn (.op revP (.cons i .nil))) := PE.imp (pe_revA ha) fun σ H Q h => by
  obtain ⟨m, B, e, S, hS, hE, h⟩ := h
  rw [ev_op1] at h
  refine tG_bind hS hE h fun d S1 m1 H1 v x1 hS1 hE1 r1 h1 eq1 => ?_
  exact op_fin (ds := [d]) (vs := [v]) ov_rev hS1 ⟨v, [], rfl, r1, rfl⟩ h1 v rfl
/-- {} -/
theorem fe_dnew : FE X cl W (.Dict [] [] pos) (evE rn (.pk dnewP .nil)) := PE.imp pe_dnewK fun σ H Q h => by
  obtain ⟨m, B, e, S, hS, hE, h⟩ := of_tF h
  simp only [evE, evEs, R.bind_ok, pures, dnewP] at h
  intro p np
  exact h m _ p [] (.dK []) (.same (Same.new np)) np (hS.ban np (Same.new np) (by rw [upd_same]; exact fun z => nomatch z)) upd_same ⟨rfl, .inl ⟨[], rfl, rfl⟩⟩ (Reps.nil_iff.mpr rfl)
theorem de_globS {x s : Str} {t : Tok} {z : List Nat} (hg : Gl X x) (hm : X.mg x = some (.str s t)) (hs : s = strV z) (ho : okS z) (hd : (x == ("__debug__" : Str)) = false) : DE X cl W (.Name x pos) (evE rn (.c (.str z))) :=
  de_glob (v := .str (strV z)) hg hm ⟨t, by rw [hs]⟩ (fun _ _ => ⟨rfl, ho⟩) hd
theorem de_globI {x : Str} {t : Tok} {i : Int} (hg : Gl X x) (hm : X.mg x = some (.int i t)) (hd : (x == ("__debug__" : Str)) = false) : DE X cl W (.Name x pos) (evE rn (.c (.int i))) :=
  de_glob (v := .int i) hg hm ⟨t, rfl⟩ (fun _ _ => rfl) hd
end
end DL

set_option maxRecDepth 100000
set_option maxHeartbeats 1000000
/-! DX2: sorted -/
namespace DL
open PySem PySem.Spec PyProof.Rows L2
mutual
theorem alk_py : ∀ x y : P, P.alk x y = true → PySem.W.alike (toPy x) (toPy y) = true
  | .non, y, h => by cases y <;> simp [P.alk] at h <;> simp [toPy, PySem.W.alike]
  | .bl _, y, h => by cases y <;> simp [P.alk] at h <;> simp [toPy, PySem.W.alike]
  | .int _, y, h => by cases y <;> simp [P.alk] at h <;> simp [toPy, PySem.W.alike]
  | .str _, y, h => by cases y <;> simp [P.alk] at h <;> simp [toPy, PySem.W.alike]
  | .tup xs, y, h => by
    cases y <;> simp only [P.alk, Bool.false_eq_true] at h
    simp only [toPy, PySem.W.alike]
    exact alks_py _ _ h
  | .lst xs, y, h => by
    cases y <;> simp only [P.alk, Bool.false_eq_true] at h
    simp only [toPy, PySem.W.alike]
    exact alks_py _ _ h
  | .dic _ _, y, h => by cases y <;> simp [P.alk] at h
  | .scr _, y, h => by cases y <;> simp [P.alk] at h
theorem alks_py : ∀ xs ys : List P, P.alks xs ys = true → PySem.W.alikeAll (toPys xs) (toPys ys) = true
  | [], ys, h => by cases ys <;> simp [toPys, PySem.W.alikeAll]
  | x :: xs, [], h => by simp [toPys, PySem.W.alikeAll]
  | x :: xs, y :: ys, h => by
    simp only [P.alks, Bool.and_eq_true] at h
    simp only [toPys, PySem.W.alikeAll, alk_py x y h.1, alks_py xs ys h.2, Bool.and_self]
end
mutual
theorem lt_py : ∀ (n : Nat) (x y : P), P.alk x y = true → x.shp n = true → y.shp n = true → PySem.W.dataLt (toPy x) (toPy y) = P.lt x y
  | n, .non, y, h, s1, s2 => by
    cases y <;> simp [P.alk] at h
    rfl
  | n, .bl a, y, h, s1, s2 => by
    cases y <;> simp [P.alk] at h
    rename_i b
    simp only [toPy, PySem.W.dataLt_bool, P.lt]
    cases a <;> cases b <;> rfl
  | n, .int _, y, h, s1, s2 => by
    cases y <;> simp [P.alk] at h
    simp only [toPy, PySem.W.dataLt_int, P.lt]
  | n, .str _, y, h, s1, s2 => by
    cases y <;> simp [P.alk] at h
    simp only [toPy, PySem.W.dataLt_str, P.lt, strV]
  | 0, .tup xs, y, h, s1, s2 => by simp [P.shp] at s1
  | 0, .lst xs, y, h, s1, s2 => by simp [P.shp] at s1
  | n + 1, .tup xs, y, h, s1, s2 => by
    cases y <;> simp only [P.alk, Bool.false_eq_true] at h
    simp only [toPy, PySem.W.dataLt_tuple, P.lt]
    exact lts_py n _ _ h (by simpa [P.shp] using s1) (by simpa [P.shp] using s2)
  | n + 1, .lst xs, y, h, s1, s2 => by
    cases y <;> simp only [P.alk, Bool.false_eq_true] at h
    simp only [toPy, PySem.W.dataLt_list, P.lt]
    exact lts_py n _ _ h (by simpa [P.shp] using s1) (by simpa [P.shp] using s2)
  | n, .dic _ _, y, h, s1, s2 => by cases y <;> simp [P.alk] at h
  | n, .scr _, y, h, s1, s2 => by cases y <;> simp [P.alk] at h
theorem lts_py : ∀ (n : Nat) (xs ys : List P), P.alks xs ys = true → P.shps n xs = true → P.shps n ys = true → PyProof.Rows.lexLt itemOrd (PySem.W.keyToksAll (toPys xs)) (PySem.W.keyToksAll (toPys ys)) = P.lts xs ys
  | n, [], [], h, s1, s2 => by
    simp only [P.lts]
    exact lex_irrefl _
  | n, [], y :: ys, h, s1, s2 => by
    simp only [toPys, P.lts]
    rw [PySem.W.toks_all_cons]
    rfl
  | n, x :: xs, [], h, s1, s2 => by
    simp only [toPys, P.lts]
    rw [PySem.W.toks_all_cons]
    rfl
  | n, x :: xs, y :: ys, h, s1, s2 => by
    simp only [P.alks, Bool.and_eq_true] at h
    simp only [P.shps, Bool.and_eq_true] at s1 s2
    simp only [toPys, P.lts]
    rw [PySem.W.dataLt_cons (alk_py x y h.1), eqv_py n x y s1.1 s2.1, lts_py n xs ys h.2 s1.2 s2.2, lt_py n x y h.1 s1.1 s2.1]
end
/-- an order of pairs by their data -/
def leV (a b : V × P) : Bool := !P.lt b.2 a.2
def rSortedD (K : PySem.W.Frag) : List V → Hp → VK → Prop := fun vs H Q => ∃ (a : Addr) (xs : List V) (ds : List P), vs = [V.ref a] ∧ SqL K H a xs ∧ DpAll K H xs (toPys ds) ∧ xs.length = ds.length ∧ canSort ds = true ∧
  ∀ p, H p = none → Q (.ref p) (upd H p (.lst (((xs.zip ds).mergeSort leV).map (·.1))))
theorem toPys_map : ∀ ds : List P, toPys ds = ds.map toPy
  | [] => rfl
  | d :: r => by rw [toPys, toPys_map r]; rfl
theorem each_zip : ∀ {xs : List V} {its : List Value} {ds : List P}, Vals xs its → xs.length = ds.length → PySem.W.EachIs (fun v (b : V × P) => RelV b.1 v) its (xs.zip ds)
  | _, _, [], .nil, _ => .nil
  | _, _, [], .cons _ _, h => by simp at h
  | _, _, d :: ds, .nil, h => by simp at h
  | _, _, d :: ds, .cons r rs, h => .cons r (each_zip rs (by simpa using h))
theorem vals_each : ∀ {its : List Value} {bs : List (V × P)}, PySem.W.EachIs (fun v (b : V × P) => RelV b.1 v) its bs → Vals (bs.map (·.1)) its
  | _, _, .nil => .nil
  | _, _, .cons r rs => .cons r (vals_each rs)
theorem each_reads {X : Cx} {pins : List (Addr × Obj)} {σ : L2.St} {H : Hp} {s : Shared} (I : L2.Inv X pins σ H s) : ∀ {xs : List V} {its : List Value} {ds : List P}, Vals xs its → DpAll X.K H xs (toPys ds) → xs.length = ds.length → PySem.W.EachIs (fun v (b : V × P) => ∃ as, Reads s.heap v (toPy b.2) as) its (xs.zip ds)
  | _, _, [], .nil, _, _ => .nil
  | _, _, [], .cons _ _, _, h => by simp at h
  | _, _, d :: ds, .nil, _, h => by simp at h
  | _, _, d :: ds, .cons r rs, D, h => by
    simp only [toPys] at D
    cases D with
    | cons d1 d2 => exact .cons (Dp.reads I _ _ _ d1 r) (each_reads I rs d2 (by simpa using h))
theorem zip_snd {xs : List V} {ds : List P} (h : xs.length = ds.length) : (xs.zip ds).map (·.2) = ds := by
  rw [List.map_snd_zip]
  omega
theorem canSort_mem {ds : List P} (h : canSort ds = true) : (∀ x ∈ ds, ∀ y ∈ ds, P.alk x y = true) ∧ ((∀ x ∈ ds, tupN x = true) ∨ ∀ x ∈ ds, notTN x = true) ∧ P.shps 60 ds = true ∧ ds.length ≤ line := by
  simp only [canSort, Bool.and_eq_true, Bool.or_eq_true, List.all_eq_true, decide_eq_true_eq] at h
  exact ⟨h.1.1.1, h.1.1.2, h.1.2, h.2⟩
theorem shps_mem : ∀ {n : Nat} {ds : List P}, P.shps n ds = true → ∀ d ∈ ds, d.shp n = true
  | n, [], h, d, hd => by cases hd
  | n, x :: r, h, d, hd => by
    simp only [P.shps, Bool.and_eq_true] at h
    rcases List.mem_cons.mp hd with rfl | hd
    · exact h.1
    · exact shps_mem h.2 d hd
theorem merge_le {xs : List V} {ds : List P} (hc : canSort ds = true) (hl : xs.length = ds.length) : (xs.zip ds).mergeSort (PySem.W.dataLe false fun b : V × P => toPy b.2) = (xs.zip ds).mergeSort leV := by
  obtain ⟨h1, h2, h3, h4⟩ := canSort_mem hc
  refine PySem.W.sort_congr fun a ha b hb => ?_
  have ma : a.2 ∈ ds := by
    rw [← zip_snd hl]
    exact List.mem_map.mpr ⟨a, ha, rfl⟩
  have mb : b.2 ∈ ds := by
    rw [← zip_snd hl]
    exact List.mem_map.mpr ⟨b, hb, rfl⟩
  rw [PySem.W.dataLe_eq]
  show (!PySem.W.dataLt (toPy b.2) (toPy a.2)) = _
  rw [lt_py 60 b.2 a.2 (h1 _ mb _ ma) (shps_mem h3 _ mb) (shps_mem h3 _ ma)]
  rfl
theorem cr_sortedD {X : Cx} (hu : X.A.units + 64 < cLine) : CallR X (.builtin "sorted") (rSortedD X.K) := by
  intro pins s σ H vs us Q I r h
  obtain ⟨a, xs, ds, rfl, hs, hd, hlen, hc, q⟩ := h
  obtain ⟨its, rv, hl, hz⟩ := I.list hs
  rw [Vals.ref1 r]
  obtain ⟨h1, h2, h3, h4⟩ := canSort_mem hc
  have hds : (xs.zip ds).map (fun b : V × P => toPy b.2) = toPys ds := by
    rw [toPys_map, ← zip_snd hlen, List.map_map]
    rw [zip_snd hlen]
    rfl
  have hzl : (xs.zip ds).length = xs.length := by rw [List.length_zip]; omega
  refine PySem.W.sorted_data (enc := fun b : V × P => toPy b.2) hl.isList (each_zip rv hlen) (each_reads I rv hd hlen) ?_ ?_ (by rw [hzl]; exact hz) ?_ (fun out ho eo => ?_)
  · rw [hds, toPys_map]
    intro x hx y hy
    obtain ⟨x, mx, rfl⟩ := List.mem_map.mp hx
    obtain ⟨y, my, rfl⟩ := List.mem_map.mp hy
    exact alk_py _ _ (h1 x mx y my)
  · rw [hds, toPys_map]
    rcases h2 with h2 | h2
    · left
      intro x hx
      obtain ⟨x, mx, rfl⟩ := List.mem_map.mp hx
      have := h2 x mx
      cases x <;> simp [tupN] at this
      rename_i zs
      cases zs <;> simp [tupN] at this
      exact ⟨_, _, rfl⟩
    · right
      intro x hx
      obtain ⟨x, mx, rfl⟩ := List.mem_map.mp hx
      have := h2 x mx
      cases x <;> simp [notTN] at this <;> simp [toPy]
  · intro b hb
    have mb : b.2 ∈ ds := by
      rw [← zip_snd hlen]
      exact List.mem_map.mpr ⟨b, hb, rfl⟩
    have := depth_py 60 b.2 (shps_mem h3 _ mb)
    show X.A.units + 2 + (toPy b.2).depth < cLine
    omega
  · rw [merge_le hc hlen] at eo
    obtain ⟨ep, he'⟩ := PyProof.Rows.sortedAll_at s.heap its (List.toArray out)
    have hv := vals_each eo
    have hlen2 : (((xs.zip ds).mergeSort leV).map (·.1)).length ≤ sizeLine := by
      rw [List.length_map, List.length_mergeSort, hzl]
      exact hz
    exact ⟨.ref _, upd H (s.heap.objs.size + 1) (.lst (((xs.zip ds).mergeSort leV).map (·.1))), I.laid (t' := s.toks) (fun _ _ => PyProof.Rows.sortedAll_old) (Nat.le_succ _) ⟨hlen2, (List.toArray out).toList, ep, hv, he'⟩, rfl, q _ (I.hok.fresh (Nat.le_succ _))⟩
theorem reps_zip {K : PySem.W.Frag} {H : Hp} {pr : Addr → Prop} : ∀ {ds : List P} {xs : List V}, Reps K H pr ds xs → ∀ b ∈ xs.zip ds, Rep K H pr b.2 b.1
  | [], xs, h, b, hb => by simp at hb
  | d :: ds, xs, h, b, hb => by
    obtain ⟨v, s, rfl, r1, r2⟩ := Reps.cons_iff.mp h
    rw [List.zip_cons_cons] at hb
    rcases List.mem_cons.mp hb with rfl | hb
    · exact r1
    · exact reps_zip r2 b hb
theorem reps_of_all {K : PySem.W.Frag} {H : Hp} {pr : Addr → Prop} : ∀ {bs : List (V × P)}, (∀ b ∈ bs, Rep K H pr b.2 b.1) → Reps K H pr (bs.map (·.2)) (bs.map (·.1))
  | [], h => Reps.nil_iff.mpr rfl
  | b :: bs, h => Reps.cons_iff.mpr ⟨b.1, _, rfl, h b List.mem_cons_self, reps_of_all fun c hc => h c (List.mem_cons_of_mem _ hc)⟩
theorem of_sorted {K : PySem.W.Frag} : OpF K (rSortedD K) sortedP := by
  intro H pr xs vs y Q hp hr hf hq
  unfold sortedP at hf
  split at hf
  · rename_i zs
    split at hf
    · rename_i hc
      cases hf
      obtain ⟨v, rfl, r1⟩ := repTs1 hr
      obtain ⟨a, ws, rfl, s, rp⟩ := r1.lst
      have hlen : ws.length = zs.length := rp.len.symm
      obtain ⟨h1, h2, h3, h4⟩ := canSort_mem hc
      refine ⟨a, ws, zs, rfl, .of s, (dps_of 60 zs ws h3 rp).1, hlen, hc, fun p np => ?_⟩
      have e : sortP zs = ((ws.zip zs).mergeSort leV).map (·.2) := by
        unfold sortP
        rw [PySem.W.sort_maps (f := fun b : V × P => b.2) (r := leV) (s := fun a b => !P.lt b a) (fun a _ b _ => rfl), zip_snd hlen]
      rw [e] at hq
      exact hq.lst (reps_of_all fun b hb => reps_zip rp b (List.mem_mergeSort.mp hb)) np
    · cases hf
  · cases hf
theorem sortedP_lst : ∀ xs y, sortedP xs = some y → (∃ xs, y = .lst xs) ∨ (∃ ks xs, y = .dic ks xs) := by
  intro xs y h
  unfold sortedP at h
  split at h
  · split at h
    · cases h
      exact .inl ⟨_, rfl⟩
    · cases h
  · cases h
end DL

set_option maxRecDepth 100000
set_option maxHeartbeats 1000000
/-! DX3: list(text), in, index -/
namespace DL
open PySem PySem.Spec PyProof.Rows L2
theorem vals_signs : ∀ (its : List Value) (cs : List Nat), its.length = cs.length → (∀ (j : Nat) (v : Value), its[j]? = some v → ∃ c u, cs[j]? = some c ∧ v = .str ⟨#[c]⟩ u) → Vals (cs.map fun c => V.str ⟨#[c]⟩) its
  | [], [], _, _ => .nil
  | [], _ :: _, h, _ => by simp at h
  | _ :: _, [], h, _ => by simp at h
  | v :: its, c :: cs, h, q => by
    obtain ⟨c', u, e, ev⟩ := q 0 v rfl
    cases e
    exact .cons ⟨u, ev⟩ (vals_signs its cs (by simpa using h) fun j w hw => by
      obtain ⟨c', u, e, ev⟩ := q (j + 1) w (by simpa using hw)
      exact ⟨c', u, by simpa using e, ev⟩)
def rListTx : List V → Hp → VK → Prop := fun xs H Q => ∃ z : Str, xs = [.str z] ∧ z.length ≤ sizeLine ∧ ∀ l, H l = none → Q (.ref l) (upd H l (.lst (z.cps.toList.map fun c => V.str ⟨#[c]⟩)))
theorem call_list_txt {X : Cx} (hc : X.calm = true) : CallR X (.type "list") rListTx := by
  intro pins s σ H vs us Q I r h
  obtain ⟨z, rfl, hz, q⟩ := h
  obtain ⟨u, rfl, t, rfl⟩ := vals1 r
  refine call_list_str (I.ok.hd hc) z t (fun h' tk acc' c' kp e ia => ?_) (hn := hz)
  have hv : Vals (z.cps.toList.map fun c => V.str ⟨#[c]⟩) acc'.toList := vals_signs _ _ (by simp [ia.1]) fun j v hj => by
    obtain ⟨c, u, h1, h2⟩ := ia.2 j v (by simpa using hj)
    exact ⟨c, u, by simpa using h1, h2⟩
  exact ⟨.ref s.heap.objs.size, _, I.laid (t' := tk) kp (Nat.le_refl _) (show ObjOk X.prog X.w _ h' _ (.lst (z.cps.toList.map fun c => V.str ⟨#[c]⟩)) from ⟨by rw [List.length_map, Array.length_toList]; exact hz, acc'.toList, c', hv, by simpa using e⟩), rfl, q _ (I.hok.fresh (Nat.le_refl _))⟩
theorem reps_signs {K : PySem.W.Frag} {H : Hp} {pr : Addr → Prop} : ∀ {x : List Nat}, (∀ c ∈ x, okS [c]) → Reps K H pr (x.map fun c => P.str [c]) ((strV x).cps.toList.map fun c => V.str ⟨#[c]⟩)
  | [], _ => Reps.nil_iff.mpr rfl
  | c :: r, h => Reps.cons_iff.mpr ⟨_, _, rfl, ⟨rfl, h c List.mem_cons_self⟩, reps_signs (x := r) fun d hd => h d (List.mem_cons_of_mem _ hd)⟩
theorem okS_one {x : List Nat} (h : okS x) : ∀ c ∈ x, okS [c] := fun c hc => ⟨by rw [List.length_singleton]; exact Nat.le_trans (List.length_pos_of_mem hc) h.1, fun d hd => by
  rw [List.mem_singleton.mp hd]
  exact h.2 c hc⟩
theorem of_listQ {K : PySem.W.Frag} : OpF K (fun vs H Q => rListOf K vs H Q ∨ rListTx vs H Q) listQ := by
  intro H pr xs vs y Q hp hr hf hq
  by_cases h : ∃ x, xs = [.str x]
  · obtain ⟨x, rfl⟩ := h
    cases hf
    obtain ⟨v, rfl, r1⟩ := repTs1 hr
    obtain ⟨rfl, o⟩ := r1.str
    exact .inr ⟨_, rfl, by rw [len_strV]; exact o.1, fun l nl => hq.lst (reps_signs (okS_one o)) nl⟩
  · refine .inl (of_list H pr xs vs y Q hp hr ?_ hq)
    unfold listQ at hf
    split at hf
    · rename_i x
      exact absurd ⟨x, rfl⟩ h
    · exact hf
theorem listQ_lst : ∀ xs y, listQ xs = some y → (∃ xs, y = .lst xs) ∨ (∃ ks xs, y = .dic ks xs) := by
  intro xs y h
  unfold listQ at h
  split at h
  · cases h
    exact .inl ⟨_, rfl⟩
  · exact listP_lst _ y h
theorem call_listQ {X : Cx} (hc : X.calm = true) : CallR X (.type "list") (fun vs H Q => rListOf X.K vs H Q ∨ rListTx vs H Q) := CallR.or call_list_of (call_list_txt hc)
end DL

set_option maxRecDepth 100000
set_option maxHeartbeats 1000000
/-! DEnd: the law's end -/
namespace DL
open PySem PySem.Spec PyProof.Rows L2
theorem ints_reps {K : PySem.W.Frag} {H : Hp} {pr : Addr → Prop} : ∀ ns : List Int, Reps K H pr (ns.map .int) (ns.map V.int)
  | [] => Reps.nil_iff.mpr rfl
  | n :: r => Reps.cons_iff.mpr ⟨_, _, rfl, rfl, ints_reps r⟩
theorem sp_law {K : PySem.W.Frag} {cl : Cls_} {g : List D → Store → R D} {H : Hp} {a : Addr} {ns : List Int} (hS : SqL K H a (ns.map V.int)) (h : ∃ S, g [.p (.scr (ns.map .int))] [] = .ok (.p (.bl true)) S) :
    spD K cl 1 g [.ref a] H (fun v _ => v = .bl true) fun _ _ _ => False := by
  obtain ⟨S, h⟩ := h
  refine ⟨[], fun _ => False, [], [.p (.scr (ns.map .int))], ⟨rfl, fun i j a e => by simp at e, fun i a e => by simp at e, fun i e => by simp at e, fun a h => h.elim⟩, ⟨_, [], rfl, ?_, rfl⟩, rfl, ?_⟩
  · refine ⟨a, _, rfl, ?_, ints_reps ns⟩
    rcases hS with hS | hS
    · exact .inl ⟨fun z => z.elim (fun z => by simp at z) id, hS⟩
    · exact .inr hS
  · rw [h]
    exact fun m' H' v x rs rp => rp
theorem cx_none {P : Program} {w : World} {outer : List PySem.Env} {H : Hp} {s : Shared} {e : Value} {s' : Shared} (h : L2.CX P w outer H s (fun _ _ _ => False) e s') : False := by
  obtain ⟨_, _, _, _, _, _, _, _, _, _, _, _, z⟩ := h
  exact z
end DL

/-! DSpec: the evaluator's equations as simp rules, loops -/
namespace DL
/-! the head first: what comes behind is looked at when the head has ended -/
theorem R.bind_congr {α β : Type} {r r2 : R α} (f : α → Store → R β) (h : r = r2) : r.bind f = r2.bind f := h ▸ rfl
theorem R.go_congr {α : Type} {r r2 : R α} (e : Env) (f : α → Store → RS) (h : r = r2) : r.go e f = r2.go e f := h ▸ rfl
section
variable (rn : Rn) (w : Nat)
@[simp] theorem evE_c (x : P) (e : Env) (S : Store) : evE rn (.c x) e S = .ok (.p x) S := by simp only [evE]
def getR (o : Option (Option D)) (S : Store) : R D := match o with
  | some (some d) => .ok d S
  | _ => .no
@[simp] theorem getR_some (d : D) (S : Store) : getR (some (some d)) S = .ok d S := rfl
@[simp] theorem evE_v (i : Nat) (e : Env) (S : Store) : evE rn (.v i) e S = getR e[i]? S := by simp only [evE]; rfl
/-- what an operation tells -/
def liftR (S : Store) : Option P → R D
  | some y => .ok (.p y) S
  | none => .no
@[simp] theorem liftR_some (S : Store) (y : P) : liftR S (some y) = .ok (.p y) S := rfl
@[simp] theorem liftR_none (S : Store) : liftR S none = .no := rfl
def opR (f : List P → Option P) (ds : List D) (S : Store) : R D := liftR S ((vals S ds).bind f)
def pkR (f : List P → Option P) (ds : List D) (S : Store) : R D := liftR S ((pures ds).bind f)
@[simp] theorem evE_op (f : List P → Option P) (es : IEs) (e : Env) (S : Store) : evE rn (.op f es) e S = (evEs rn es e S).bind fun ds S1 => opR f ds S1 := by
  simp only [evE]
  congr 1
  funext ds S1
  unfold opR
  cases vals S1 ds with
  | none => rfl
  | some xs => simp only [Option.bind_some]; cases f xs <;> rfl
@[simp] theorem evE_pk (f : List P → Option P) (es : IEs) (e : Env) (S : Store) : evE rn (.pk f es) e S = (evEs rn es e S).bind fun ds S1 => pkR f ds S1 := by
  simp only [evE]
  congr 1
  funext ds S1
  unfold pkR
  cases pures ds with
  | none => rfl
  | some xs => simp only [Option.bind_some]; cases f xs <;> rfl
@[simp] theorem evE_call (f : Nat) (es : IEs) (e : Env) (S : Store) : evE rn (.call f es) e S = (evEs rn es e S).bind fun ds S1 => rn f ds S1 := by simp only [evE]
def boolR {α : Type} (d : D) (k : Bool → R α) : R α := match trueD d with
  | some b => k b
  | none => .no
@[simp] theorem boolR_bl {α : Type} (b : Bool) (k : Bool → R α) : boolR (.p (.bl b)) k = k b := rfl
@[simp] theorem evE_and (a b : IE) (e : Env) (S : Store) : evE rn (.and_ a b) e S = (evE rn a e S).bind fun d S1 => boolR d fun c => if c then evE rn b e S1 else .ok (.p (.bl false)) S1 := by
  simp only [evE]
  congr 1
  funext d S1
  unfold boolR
  cases trueD d with
  | none => rfl
  | some c => cases c <;> rfl
@[simp] theorem evE_or (a b : IE) (e : Env) (S : Store) : evE rn (.or_ a b) e S = (evE rn a e S).bind fun d S1 => boolR d fun c => if c then .ok (.p (.bl true)) S1 else evE rn b e S1 := by
  simp only [evE]
  congr 1
  funext d S1
  unfold boolR
  cases trueD d with
  | none => rfl
  | some c => cases c <;> rfl
@[simp] theorem evE_not (a : IE) (e : Env) (S : Store) : evE rn (.not_ a) e S = (evE rn a e S).bind fun d S1 => boolR d fun c => .ok (.p (.bl (!c))) S1 := by
  simp only [evE]
  congr 1
@[simp] theorem evE_ite (t a b : IE) (e : Env) (S : Store) : evE rn (.ite t a b) e S = (evE rn t e S).bind fun d S1 => boolR d fun c => if c then evE rn a e S1 else evE rn b e S1 := by
  simp only [evE]
  congr 1
  funext d S1
  unfold boolR
  cases trueD d with
  | none => rfl
  | some c => cases c <;> rfl
def partR (d : D) (S : Store) : R D := match d with
  | .p (.int i) => .ok (.p (.int i)) S
  | _ => .no
@[simp] theorem partR_int (i : Int) (S : Store) : partR (.p (.int i)) S = .ok (.p (.int i)) S := rfl
@[simp] theorem evE_part (a : IE) (e : Env) (S : Store) : evE rn (.part a) e S = (evE rn a e S).bind partR := by simp only [evE]; rfl
@[simp] theorem evE_new (a : IE) (e : Env) (S : Store) : evE rn (.new a) e S = (evE rn a e S).bind newD := by simp only [evE]
@[simp] theorem evE_frz (a : IE) (e : Env) (S : Store) : evE rn (.frz a) e S = (evE rn a e S).bind (frzD S) := by simp only [evE]
def methR (T : P → Bool) (f : List P → Option P) (d : D) (S1 : Store) (g : Store → R (List D)) : R D := match val S1 d with
    | some x => if T x then (g S1).bind fun ds S2 => opR f (d :: ds) S2 else .no
    | none => .no
@[simp] theorem evE_meth (T : P → Bool) (f : List P → Option P) (a : IE) (es : IEs) (e : Env) (S : Store) : evE rn (.meth T f a es) e S = (evE rn a e S).bind fun d S1 => methR T f d S1 fun S2 => evEs rn es e S2 := by
  simp only [evE]
  congr 1
  funext d S1
  unfold methR
  cases val S1 d with
  | none => rfl
  | some x =>
    simp only
    congr 1
    congr 1
    funext ds S2
    unfold opR
    cases vals S2 (d :: ds) with
    | none => rfl
    | some xs => simp only [Option.bind_some]; cases f xs <;> rfl
/-- what a change tells -/
def mutO (g : Mu) (d : D) (S : Store) : Option (List P) → R D
  | some xs => mutD g d xs S
  | none => .no
@[simp] theorem mutO_some (g : Mu) (d : D) (S : Store) (xs : List P) : mutO g d S (some xs) = mutD g d xs S := rfl
def mutR (T : P → Bool) (g : Mu) (d : D) (S1 : Store) (h : Store → R (List D)) : R D := match val S1 d with
    | some x => if T x then (h S1).bind fun ds S2 => mutO g d S2 (pures ds) else .no
    | none => .no
@[simp] theorem evE_mut (T : P → Bool) (g : Mu) (a : IE) (es : IEs) (e : Env) (S : Store) : evE rn (.mut T g a es) e S = (evE rn a e S).bind fun d S1 => mutR T g d S1 fun S2 => evEs rn es e S2 := by
  simp only [evE]
  rfl
@[simp] theorem evEs_nil (e : Env) (S : Store) : evEs rn .nil e S = .ok [] S := by simp only [evEs]
@[simp] theorem evEs_cons (a : IE) (r : IEs) (e : Env) (S : Store) : evEs rn (.cons a r) e S = (evE rn a e S).bind fun d S1 => (evEs rn r e S1).bind fun ds S2 => .ok (d :: ds) S2 := by simp only [evEs]
/-- one item of a comprehension -/
def cpItem (vs : List Nat) (tg : Tg) (cd elt : IE) (e : Env) (x : P) (S2 : Store) : R (Option P) :=
          match assignTg tg (.p x) S2 (wipeD e vs) with
          | some e1 => (evE rn cd e1 S2).bind fun t S3 =>
            (match trueD t with
            | some true => (evE rn elt e1 S3).bind fun d S4 =>
              (match d with
              | .p y => .ok (some y) S4
              | _ => .no)
            | some false => .ok none S3
            | none => .no)
          | none => .no
def itmP (d : D) (S : Store) : R (Option P) := match d with
  | .p y => .ok (some y) S
  | _ => .no
@[simp] theorem itmP_p (y : P) (S : Store) : itmP (.p y) S = .ok (some y) S := rfl
def itmK (cd elt : IE) (o : Option Env) (S2 : Store) : R (Option P) := match o with
  | some e1 => (evE rn cd e1 S2).bind fun t S3 => boolR t fun c => if c then (evE rn elt e1 S3).bind itmP else .ok none S3
  | none => .no
@[simp] theorem itmK_some (cd elt : IE) (e1 : Env) (S2 : Store) : itmK rn cd elt (some e1) S2 = (evE rn cd e1 S2).bind fun t S3 => boolR t fun c => if c then (evE rn elt e1 S3).bind itmP else .ok none S3 := rfl
theorem cpItem_k (vs : List Nat) (tg : Tg) (cd elt : IE) (e : Env) (x : P) (S2 : Store) : cpItem rn vs tg cd elt e x S2 = itmK rn cd elt (assignTg tg (.p x) S2 (wipeD e vs)) S2 := by
  unfold cpItem itmK
  cases assignTg tg (.p x) S2 (wipeD e vs) with
  | none => rfl
  | some e1 =>
    simp only
    congr 1
    funext t S3
    unfold boolR
    cases trueD t with
    | none => rfl
    | some c => cases c <;> rfl
def chkD (ds : List D) (xs : List P) (S : Store) : Bool := decide (vals S ds = some xs)
def itemsR {β : Type} (f : List P → Option (List P)) (ds : List D) (S : Store) (no : β) (k : List P → List P → β) : β := match vals S ds with
    | some xs => (match f xs with
      | some items => k xs items
      | none => no)
    | none => no
@[simp] theorem evE_comp (vs : List Nat) (tg : Tg) (f : List P → Option (List P)) (es : IEs) (cd elt : IE) (e : Env) (S : Store) : evE rn (.comp vs tg f es cd elt) e S = (evEs rn es e S).bind fun ds S1 =>
    itemsR f ds S1 .no fun xs items => (compL (chkD ds xs) (cpItem rn vs tg cd elt e) items S1).bind fun ys S2 => .ok (.p (.lst ys)) S2 := by
  simp only [evE]
  rfl
def asgR (o : Option Env) (S : Store) : RS := match o with
  | some e => .nx e S
  | none => .no
@[simp] theorem asgR_some (e : Env) (S : Store) : asgR (some e) S = .nx e S := rfl
@[simp] theorem evS_asg (tg : Tg) (a : IE) (e : Env) (S : Store) : evS rn w (.asg tg a) e S = (evE rn a e S).go e fun d S1 => asgR (assignTg tg d S1 e) S1 := by simp only [evS]; rfl
@[simp] theorem evS_expr (a : IE) (e : Env) (S : Store) : evS rn w (.expr a) e S = (evE rn a e S).go e fun _ S1 => .nx e S1 := by simp only [evS]
@[simp] theorem evS_ret (a : IE) (e : Env) (S : Store) : evS rn w (.ret a) e S = (evE rn a e S).go e fun d S1 => .ret d S1 := by simp only [evS]
def boolS (d : D) (k : Bool → RS) : RS := match trueD d with
  | some b => k b
  | none => .no
@[simp] theorem boolS_bl (b : Bool) (k : Bool → RS) : boolS (.p (.bl b)) k = k b := rfl
@[simp] theorem evS_iff (t : IE) (a b : ISs) (e : Env) (S : Store) : evS rn w (.iff t a b) e S = (evE rn t e S).go e fun d S1 => boolS d fun c => if c then evSs rn w a e S1 else evSs rn w b e S1 := by
  simp only [evS]
  congr 1
  funext d S1
  unfold boolS
  cases trueD d with
  | none => rfl
  | some c => cases c <;> rfl
def forItem (tg : Tg) (b : ISs) (x : P) (e1 : Env) (S2 : Store) : RS := match assignTg tg (.p x) S2 e1 with
          | some e2 => evSs rn w b e2 S2
          | none => .no
def forK (b : ISs) (o : Option Env) (S2 : Store) : RS := match o with
  | some e2 => evSs rn w b e2 S2
  | none => .no
@[simp] theorem forK_some (b : ISs) (e : Env) (S : Store) : forK rn w b (some e) S = evSs rn w b e S := rfl
theorem forItem_k (tg : Tg) (b : ISs) (x : P) (e1 : Env) (S2 : Store) : forItem rn w tg b x e1 S2 = forK rn w b (assignTg tg (.p x) S2 e1) S2 := rfl
@[simp] theorem evS_for (tg : Tg) (f : List P → Option (List P)) (es : IEs) (b : ISs) (e : Env) (S : Store) : evS rn w (.for_ tg f es b) e S = (evEs rn es e S).go e fun ds S1 => itemsR f ds S1 .no fun xs items => forL (chkD ds xs) (forItem rn w tg b) items e S1 := by
  simp only [evS]
  rfl
@[simp] theorem evS_whl (t : IE) (b : ISs) (e : Env) (S : Store) : evS rn w (.whl t b) e S = whlL (fun e S => evE rn t e S) (fun e S => evSs rn w b e S) w e S := by simp only [evS]
@[simp] theorem evS_pass (e : Env) (S : Store) : evS rn w .pass e S = .nx e S := by simp only [evS]
@[simp] theorem evS_brk (e : Env) (S : Store) : evS rn w .brk e S = .bk e S := by simp only [evS]
@[simp] theorem evS_cnt (e : Env) (S : Store) : evS rn w .cnt e S = .ct e S := by simp only [evS]
def subR (g : Mu) (v1 d1 k1 : D) (S3 : Store) (e : Env) : RS := match v1, k1 with
    | .p y, .p x => (mutD g d1 [x, y] S3).go e fun _ S4 => .nx e S4
    | _, _ => .no
@[simp] theorem subR_p (g : Mu) (y x : P) (d1 : D) (S3 : Store) (e : Env) : subR g (.p y) d1 (.p x) S3 e = (mutD g d1 [x, y] S3).go e fun _ S4 => .nx e S4 := rfl
@[simp] theorem evS_sub (g : Mu) (a k v : IE) (e : Env) (S : Store) : evS rn w (.sub g a k v) e S = (evE rn v e S).go e fun v1 S1 => (evE rn a e S1).go e fun d1 S2 => (evE rn k e S2).go e fun k1 S3 =>
    subR g v1 d1 k1 S3 e := by simp only [evS]; rfl
/-- what comes behind a statement -/
def RS.thn (r : RS) (k : Env → Store → RS) : RS := match r with
    | .nx e1 S1 => k e1 S1
    | .ret d S1 => .ret d S1
    | .bk e1 S1 => .bk e1 S1
    | .ct e1 S1 => .ct e1 S1
    | .ex c fs e1 S1 => .ex c fs e1 S1
    | .no => .no
theorem RS.thn_congr {r r2 : RS} (k : Env → Store → RS) (h : r = r2) : r.thn k = r2.thn k := h ▸ rfl
@[simp] theorem trueD_bl (b : Bool) : trueD (.p (.bl b)) = some b := rfl
@[simp] theorem val_p (S : Store) (x : P) : val S (.p x) = some x := rfl
@[simp] theorem RS.thn_nx (e : Env) (S : Store) (k : Env → Store → RS) : (RS.nx e S).thn k = k e S := rfl
@[simp] theorem RS.thn_ret (d : D) (S : Store) (k : Env → Store → RS) : (RS.ret d S).thn k = .ret d S := rfl
@[simp] theorem RS.thn_bk (e : Env) (S : Store) (k : Env → Store → RS) : (RS.bk e S).thn k = .bk e S := rfl
@[simp] theorem RS.thn_ct (e : Env) (S : Store) (k : Env → Store → RS) : (RS.ct e S).thn k = .ct e S := rfl
@[simp] theorem RS.thn_no (k : Env → Store → RS) : (RS.no).thn k = .no := rfl
@[simp] theorem RS.thn_ex (c : Nat) (fs : List P) (e : Env) (S : Store) (k : Env → Store → RS) : (RS.ex c fs e S).thn k = .ex c fs e S := rfl
@[simp] theorem evSs_nil (e : Env) (S : Store) : evSs rn w .nil e S = .nx e S := by simp only [evSs]
@[simp] theorem evSs_cons (s : IS) (r : ISs) (e : Env) (S : Store) : evSs rn w (.cons s r) e S = (evS rn w s e S).thn fun e1 S1 => evSs rn w r e1 S1 := by
  simp only [evSs]
  cases evS rn w s e S <;> rfl
end
/-- a def's run -/
theorem run_at {p : Prog} {f : Nat} {fn : Fn} (h : p f = some fn) {k : Nat} {ds : List D} (S : Store) (hl : ds.length = fn.np) : run p (k + 1) f ds S = fin S (evSs (run p k) turnsMost fn.body (ds.map some ++ List.replicate fn.nv none) S) := by
  simp only [run, h, if_pos hl]
@[simp] theorem assignTg_one (i : Nat) (d : D) (S : Store) (e : Env) : assignTg (.one i) d S e = some (e.set i (some d)) := rfl
@[simp] theorem assignTg_tup (is : List Nat) (xs : List P) (S : Store) (e : Env) : assignTg (.many is) (.p (.tup xs)) S e = setMany is xs e := rfl
/-! the store -/
@[simp] theorem vals_nil0 (S : Store) : vals S [] = some [] := rfl
@[simp] theorem vals_p (S : Store) (x : P) (r : List D) : vals S (.p x :: r) = (vals S r).map (x :: ·) := by
  simp only [vals, val]
  cases vals S r <;> rfl
@[simp] theorem vals_ref (S : Store) (l : Nat) (r : List D) : vals S (.ref l :: r) = (S[l]?.bind oval).bind fun x => (vals S r).map (x :: ·) := by
  simp only [vals, val]
  cases S[l]?.bind oval with
  | none => rfl
  | some x => cases vals S r <;> rfl
@[simp] theorem oval_lst (xs : List P) : oval (.lst xs) = some (.lst xs) := rfl
@[simp] theorem oval_dic (kvs : List (P × P)) : oval (.dic kvs) = some (.dic (kvs.map (·.1)) (kvs.map (·.2))) := rfl
@[simp] theorem val_ref (S : Store) (l : Nat) : val S (.ref l) = S[l]?.bind oval := rfl
@[simp] theorem pures_nil : pures [] = some [] := rfl
@[simp] theorem pures_p (x : P) (r : List D) : pures (.p x :: r) = (pures r).map (x :: ·) := by
  simp only [pures]
  cases pures r <;> rfl
@[simp] theorem get_last (A : Store) (o : O) : (A ++ [o])[A.length]? = some o := by simp
@[simp] theorem get_last1 (S : Store) (l : Nat) (o o2 : O) : (S.set l o ++ [o2])[S.length]? = some o2 := by
  rw [List.getElem?_append_right (by simp)]
  simp
@[simp] theorem set_last (A : Store) (o o2 : O) : (A ++ [o]).set A.length o2 = A ++ [o2] := by simp
@[simp] theorem set_last1 (S : Store) (l : Nat) (o o2 o3 : O) : (S.set l o ++ [o2]).set S.length o3 = S.set l o ++ [o3] := by
  rw [List.set_append_right _ _ (by simp)]
  simp
/-- what a change leaves -/
def mutK (S : Store) (l : Nat) : Option (O × P) → R D
  | some (o, y) => .ok (.p y) (S.set l o)
  | none => .no
@[simp] theorem mutK_some (S : Store) (l : Nat) (o : O) (y : P) : mutK S l (some (o, y)) = .ok (.p y) (S.set l o) := rfl
@[simp] theorem mutD_ref (g : Mu) (l : Nat) (xs : List P) (S : Store) : mutD g (.ref l) xs S = mutK S l (S[l]?.bind fun o => g o xs) := by
  unfold mutD mutK
  dsimp only
  cases S[l]? with
  | none => rfl
  | some o =>
    cases hg : g o xs with
    | none => simp [hg]
    | some q => simp [hg]
/-- the end of a def -/
def finK (b : Bool) (r : R D) : R D := if b then r else .no
@[simp] theorem finK_t (r : R D) : finK true r = r := rfl
@[simp] theorem fin_nx (S0 : Store) (e : Env) (S : Store) : fin S0 (.nx e S) = finK (okT S0 S) (.ok (.p .non) (S.take S0.length)) := by simp only [fin, finK]
@[simp] theorem fin_p (S0 : Store) (x : P) (S : Store) : fin S0 (.ret (.p x) S) = finK (okT S0 S) (.ok (.p x) (S.take S0.length)) := by simp only [fin, finK]
def retR (S0 S : Store) (l : Nat) : R D := if l < S0.length then .ok (.ref l) (S.take S0.length) else
    match S[l]? with
    | some (.lst xs) => .ok (.ref S0.length) (S.take S0.length ++ [.lst xs])
    | some (.dic kvs) => .ok (.ref S0.length) (S.take S0.length ++ [.dic kvs])
    | _ => .no
theorem retR_lst {S0 S : Store} {l : Nat} {xs : List P} (h : S0.length ≤ l) (hg : S[l]? = some (.lst xs)) : retR S0 S l = .ok (.ref S0.length) (S.take S0.length ++ [.lst xs]) := by
  unfold retR
  rw [if_neg (by omega), hg]
theorem retR_old {S0 S : Store} {l : Nat} (h : l < S0.length) : retR S0 S l = .ok (.ref l) (S.take S0.length) := by
  unfold retR
  rw [if_pos h]
@[simp] theorem fin_ref (S0 : Store) (l : Nat) (S : Store) : fin S0 (.ret (.ref l) S) = finK (okT S0 S) (retR S0 S l) := by
  simp only [fin, finK, retR]
  try (split <;> rfl)
theorem fin_congr {r r2 : RS} (S0 : Store) (h : r = r2) : fin S0 r = fin S0 r2 := h ▸ rfl
@[simp] theorem chkD_p (x : P) (xs : List P) (S : Store) : chkD [.p x] xs S = decide ([x] = xs) := by simp [chkD, vals, val]
@[simp] theorem chkD_pp (x y : P) (xs : List P) (S : Store) : chkD [.p x, .p y] xs S = decide ([x, y] = xs) := by simp [chkD, vals, val]
@[simp] theorem okT_refl : ∀ S : Store, okT S S = true
  | [] => rfl
  | a :: r => by
    unfold okT
    rw [okT_refl r]
    cases a <;> simp
@[simp] theorem okT_app : ∀ S J : Store, okT S (S ++ J) = true
  | [], J => by simp [okT]
  | a :: r, J => by
    rw [List.cons_append]
    unfold okT
    rw [okT_app r J]
    cases a <;> simp
/-- no object of objects -/
def flatO : O → Bool
  | .dir _ => false
  | _ => true
theorem okT_set : ∀ (S J : Store) (l : Nat) (o : O), flatO o = true → okT S (S.set l o ++ J) = true
  | [], J, l, o, h => by simp [okT]
  | a :: r, J, 0, o, h => by
    simp only [List.set_cons_zero, List.cons_append]
    unfold okT
    rw [okT_app]
    cases o <;> simp_all [flatO]
  | a :: r, J, l + 1, o, h => by
    simp only [List.set_cons_succ, List.cons_append]
    unfold okT
    rw [okT_set r J l o h]
    cases a <;> simp
@[simp] theorem okT_set_lst (S J : Store) (l : Nat) (xs : List P) : okT S (S.set l (.lst xs) ++ J) = true := okT_set S J l _ rfl
@[simp] theorem okT_set_lst0 (S : Store) (l : Nat) (xs : List P) : okT S (S.set l (.lst xs)) = true := by
  have := okT_set S [] l (.lst xs) rfl
  rwa [List.append_nil] at this
/-! ### loops -/
theorem compL_map {chk : Store → Bool} {f : P → Store → R (Option P)} {g : P → P} : ∀ {items : List P} {S : Store}, chk S = true → (∀ x ∈ items, f x S = .ok (some (g x)) S) → compL chk f items S = .ok (items.map g) S
  | [], S, hc, h => by simp [compL, hc]
  | x :: r, S, hc, h => by
    unfold compL
    rw [if_pos hc, h x List.mem_cons_self]
    simp [compL_map hc fun y hy => h y (List.mem_cons_of_mem _ hy)]
theorem compL_filter {chk : Store → Bool} {f : P → Store → R (Option P)} {g : P → Option P} : ∀ {items : List P} {S : Store}, chk S = true → (∀ x ∈ items, f x S = .ok (g x) S) → compL chk f items S = .ok (items.filterMap g) S
  | [], S, hc, h => by simp [compL, hc]
  | x :: r, S, hc, h => by
    unfold compL
    rw [if_pos hc, h x List.mem_cons_self]
    simp only [compL_filter hc fun y hy => h y (List.mem_cons_of_mem _ hy), R.bind_ok, List.filterMap_cons]
    cases g x <;> rfl
/-- a comprehension whose items change the store: I holds of what is made so far -/
theorem compL_inv {chk : Store → Bool} {f : P → Store → R (Option P)} (I : List P → Store → Prop) : ∀ {items ys : List P} {S : Store}, (∀ ys S, I ys S → chk S = true) → I ys S → (∀ x ∈ items, ∀ ys S, I ys S → ∃ o S', f x S = .ok o S' ∧ I (ys ++ o.toList) S') →
    ∃ zs S', compL chk f items S = .ok zs S' ∧ I (ys ++ zs) S'
  | [], ys, S, hc, hi, h => ⟨[], S, by simp [compL, hc ys S hi], by simpa using hi⟩
  | x :: r, ys, S, hc, hi, h => by
    obtain ⟨o, S1, e1, i1⟩ := h x List.mem_cons_self ys S hi
    obtain ⟨zs, S2, e2, i2⟩ := compL_inv I hc i1 fun y hy => h y (List.mem_cons_of_mem _ hy)
    refine ⟨o.toList ++ zs, S2, ?_, by rw [← List.append_assoc]; exact i2⟩
    unfold compL
    rw [if_pos (hc ys S hi), e1]
    simp only [e2, R.bind_ok]
    cases o <;> rfl
/-- the same, each item gives one thing -/
theorem compL_each {chk : Store → Bool} {f : P → Store → R (Option P)} (I : List P → Store → Prop) : ∀ {items ys : List P} {S : Store}, (∀ ys S, I ys S → chk S = true) → I ys S → (∀ (i : Nat) (x : P), items[i]? = some x → ∀ zs S, zs.length = ys.length + i → I zs S → ∃ y S', f x S = .ok (some y) S' ∧ I (zs ++ [y]) S') →
    ∃ zs S', compL chk f items S = .ok zs S' ∧ zs.length = items.length ∧ I (ys ++ zs) S'
  | [], ys, S, hc, hi, h => ⟨[], S, by simp [compL, hc ys S hi], rfl, by simpa using hi⟩
  | x :: r, ys, S, hc, hi, h => by
    obtain ⟨y, S1, e1, i1⟩ := h 0 x rfl ys S rfl hi
    obtain ⟨zs, S2, e2, l2, i2⟩ := compL_each I (items := r) (ys := ys ++ [y]) hc i1 fun i z hz ws S hw hI => h (i + 1) z (by simpa using hz) ws S (by simp at hw; omega) hI
    refine ⟨y :: zs, S2, ?_, by simp [l2], by simpa using i2⟩
    unfold compL
    rw [if_pos (hc ys S hi), e1]
    simp only [e2, R.bind_ok]
/-- a for whose turns go on: I is kept -/
theorem forL_inv {chk : Store → Bool} {f : P → Env → Store → RS} (I : Nat → Env → Store → Prop) : ∀ {items : List P} {n : Nat} {e : Env} {S : Store}, (∀ n e S, I n e S → chk S = true) → I n e S → (∀ (i : Nat) (x : P), items[i]? = some x → ∀ e S, I (n + i) e S → ∃ e' S', (f x e S = .nx e' S' ∨ f x e S = .ct e' S') ∧ I (n + i + 1) e' S') →
    ∃ e' S', forL chk f items e S = .nx e' S' ∧ I (n + items.length) e' S'
  | [], n, e, S, hc, hi, h => ⟨e, S, by simp [forL, hc n e S hi], hi⟩
  | x :: r, n, e, S, hc, hi, h => by
    obtain ⟨e1, S1, q, i1⟩ := h 0 x rfl e S hi
    obtain ⟨e2, S2, q2, i2⟩ := forL_inv I (items := r) (n := n + 1) hc i1 fun i y hy e S hI => by
      have := h (i + 1) y (by simpa using hy) e S (by rw [show n + (i + 1) = n + 1 + i by omega]; exact hI)
      rw [show n + (i + 1) + 1 = n + 1 + i + 1 by omega] at this
      exact this
    refine ⟨e2, S2, ?_, by rw [List.length_cons, show n + (r.length + 1) = n + 1 + r.length by omega]; exact i2⟩
    unfold forL
    rw [if_pos (hc n e S hi)]
    rcases q with q | q <;> rw [q] <;> exact q2
theorem forL_use {chk : Store → Bool} {f : P → Env → Store → RS} {items : List P} {e : Env} {S : Store} {r : RS} (hr : forL chk f items e S = r) (I : Nat → Env → Store → Prop) (hc : ∀ n e S, I n e S → chk S = true) (hi : I 0 e S) (h : ∀ (i : Nat) (x : P), items[i]? = some x → ∀ e S, I i e S → ∃ e' S', (f x e S = .nx e' S' ∨ f x e S = .ct e' S') ∧ I (i + 1) e' S') :
    ∃ e' S', r = .nx e' S' ∧ I items.length e' S' := by
  obtain ⟨e', S', q, i⟩ := forL_inv (n := 0) I hc hi fun i x hx e S hI => by
    simp only [Nat.zero_add] at hI ⊢
    exact h i x hx e S hI
  rw [Nat.zero_add] at i
  exact ⟨e', S', hr ▸ q, i⟩
theorem compL_use {chk : Store → Bool} {f : P → Store → R (Option P)} {items : List P} {S : Store} {r : R (List P)} (hr : compL chk f items S = r) (I : List P → Store → Prop) (hc : ∀ ys S, I ys S → chk S = true) (hi : I [] S) (h : ∀ (i : Nat) (x : P), items[i]? = some x → ∀ zs S, zs.length = i → I zs S → ∃ y S', f x S = .ok (some y) S' ∧ I (zs ++ [y]) S') :
    ∃ zs S', r = .ok zs S' ∧ zs.length = items.length ∧ I zs S' := by
  obtain ⟨zs, S', q, l, i⟩ := compL_each (ys := []) I hc hi fun i x hx zs S hz hI => h i x hx zs S (by simpa using hz) hI
  exact ⟨zs, S', hr ▸ q, l, i⟩
/-- a turn that goes on -/
def Nxt (r : RS) (Q : Env → Store → Prop) : Prop := match r with
  | .nx e S => Q e S
  | .ct e S => Q e S
  | _ => False
@[simp] theorem Nxt_nx (e : Env) (S : Store) (Q : Env → Store → Prop) : Nxt (.nx e S) Q ↔ Q e S := Iff.rfl
@[simp] theorem Nxt_ct (e : Env) (S : Store) (Q : Env → Store → Prop) : Nxt (.ct e S) Q ↔ Q e S := Iff.rfl
theorem Nxt_congr {r r2 : RS} (Q : Env → Store → Prop) (h : r = r2) : Nxt r Q = Nxt r2 Q := h ▸ rfl
/-- an item that gives a thing -/
def Itm (r : R (Option P)) (Q : P → Store → Prop) : Prop := match r with
  | .ok (some y) S => Q y S
  | _ => False
@[simp] theorem Itm_ok (y : P) (S : Store) (Q : P → Store → Prop) : Itm (.ok (some y) S) Q ↔ Q y S := Iff.rfl
theorem Itm_congr {r r2 : R (Option P)} (Q : P → Store → Prop) (h : r = r2) : Itm r Q = Itm r2 Q := h ▸ rfl
theorem forL_elim {C : Prop} {chk : Store → Bool} {f : P → Env → Store → RS} {items : List P} {e : Env} {S : Store} {r : RS} (hr : forL chk f items e S = r) (I : Nat → Env → Store → Prop) (hc : ∀ n e S, I n e S → chk S = true) (hi : I 0 e S) (h : ∀ (i : Nat) (x : P), items[i]? = some x → ∀ e S, I i e S → Nxt (f x e S) (I (i + 1))) (k : ∀ e' S', r = .nx e' S' → I items.length e' S' → C) : C := by
  obtain ⟨e', S', q, i⟩ := forL_use hr I hc hi fun i x hx e S hI => by
    have := h i x hx e S hI
    cases hf : f x e S <;> rw [hf] at this <;> first | exact this.elim | exact ⟨_, _, .inl rfl, this⟩ | exact ⟨_, _, .inr rfl, this⟩
  exact k e' S' q i
theorem compL_elim {C : Prop} {chk : Store → Bool} {f : P → Store → R (Option P)} {items : List P} {S : Store} {r : R (List P)} (hr : compL chk f items S = r) (I : List P → Store → Prop) (hc : ∀ ys S, I ys S → chk S = true) (hi : I [] S) (h : ∀ (i : Nat) (x : P), items[i]? = some x → ∀ zs S, zs.length = i → I zs S → Itm (f x S) fun y S' => I (zs ++ [y]) S')
    (k : ∀ zs S', r = .ok zs S' → zs.length = items.length → I zs S' → C) : C := by
  obtain ⟨zs, S', q, l, i⟩ := compL_use hr I hc hi fun i x hx zs S hz hI => by
    have := h i x hx zs S hz hI
    cases hf : f x S with
    | ok o S1 =>
      rw [hf] at this
      cases o with
      | none => exact this.elim
      | some y => exact ⟨y, S1, rfl, this⟩
    | ex => rw [hf] at this; exact this.elim
    | no => rw [hf] at this; exact this.elim
  exact k zs S' q l i
theorem compL_mapOn {α : Type} {chk : Store → Bool} {f : P → Store → R (Option P)} (emb g : α → P) : ∀ {xs : List α} {S : Store}, chk S = true → (∀ x ∈ xs, f (emb x) S = .ok (some (g x)) S) → compL chk f (xs.map emb) S = .ok (xs.map g) S
  | [], S, hc, h => by simp [compL, hc]
  | x :: r, S, hc, h => by
    rw [List.map_cons]
    unfold compL
    rw [if_pos hc, h x List.mem_cons_self]
    simp [compL_mapOn emb g hc fun y hy => h y (List.mem_cons_of_mem _ hy)]
theorem sIx_nat (n d v : Nat) : sIx' n d (.int (v : Int)) = some (min v n) := by
  simp only [sIx']
  rw [if_neg (by omega)]
  simp
theorem cut_min {α : Type} (xs : List α) (r h : Nat) : cutL xs (min r xs.length) (min (r + h) xs.length) = (xs.drop r).take h := by
  unfold cutL
  by_cases hr : r ≤ xs.length
  · rw [Nat.min_eq_left hr]
    by_cases hh : r + h ≤ xs.length
    · rw [Nat.min_eq_left hh]
      congr 1
      omega
    · rw [Nat.min_eq_right (by omega), List.take_of_length_le (by simp), List.take_of_length_le (by simp; omega)]
  · rw [Nat.min_eq_right (by omega), Nat.min_eq_right (by omega), List.drop_eq_nil_of_le (by omega), List.drop_eq_nil_of_le (by omega)]
    simp
/-- a slice from a to a + n, of what is no negative -/
theorem slice_tup (x : List P) (a n : Nat) : sliceP [.tup x, .int a, .int ((a : Int) + n)] = some (.tup ((x.drop a).take n)) := by
  rw [← Int.natCast_add]
  simp only [sliceP, sIx_nat, cut_min]
theorem slice_lst (x : List P) (a n : Nat) : sliceP [.lst x, .int a, .int ((a : Int) + n)] = some (.lst ((x.drop a).take n)) := by
  rw [← Int.natCast_add]
  simp only [sliceP, sIx_nat, cut_min]
theorem slice_str (x : List Nat) (a n : Nat) : sliceP [.str x, .int a, .int ((a : Int) + n)] = some (.str ((x.drop a).take n)) := by
  rw [← Int.natCast_add]
  simp only [sliceP, sIx_nat, cut_min]
theorem cut_to {α : Type} (xs : List α) (n : Nat) : cutL xs 0 (min n xs.length) = xs.take n := by
  have := cut_min xs 0 n
  rwa [Nat.zero_min, Nat.zero_add, List.drop_zero] at this
theorem cut_from {α : Type} (xs : List α) (n : Nat) : cutL xs (min n xs.length) xs.length = xs.drop n := by
  unfold cutL
  rw [List.take_of_length_le (by simp)]
  by_cases h : n ≤ xs.length
  · rw [Nat.min_eq_left h]
  · rw [Nat.min_eq_right (by omega), List.drop_eq_nil_of_le (Nat.le_refl _), List.drop_eq_nil_of_le (by omega)]
theorem sIx_non (n d : Nat) : sIx' n d .non = some d := rfl
theorem slice_tup0 (x : List P) (n : Nat) : sliceP [.tup x, .non, .int n] = some (.tup (x.take n)) := by simp only [sliceP, sIx_nat, sIx_non, cut_to]
theorem slice_lst0 (x : List P) (n : Nat) : sliceP [.lst x, .non, .int n] = some (.lst (x.take n)) := by simp only [sliceP, sIx_nat, sIx_non, cut_to]
theorem slice_str0 (x : List Nat) (n : Nat) : sliceP [.str x, .non, .int n] = some (.str (x.take n)) := by simp only [sliceP, sIx_nat, sIx_non, cut_to]
theorem slice_tupE (x : List P) (n : Nat) : sliceP [.tup x, .int n, .non] = some (.tup (x.drop n)) := by simp only [sliceP, sIx_nat, sIx_non, cut_from]
theorem slice_lstE (x : List P) (n : Nat) : sliceP [.lst x, .int n, .non] = some (.lst (x.drop n)) := by simp only [sliceP, sIx_nat, sIx_non, cut_from]
theorem slice_strE (x : List Nat) (n : Nat) : sliceP [.str x, .int n, .non] = some (.str (x.drop n)) := by simp only [sliceP, sIx_nat, sIx_non, cut_from]
theorem eqvs_strs : ∀ xs ys : List (List Nat), P.eqvs (xs.map .str) (ys.map .str) = decide (xs = ys)
  | [], [] => by simp [P.eqvs]
  | [], _ :: _ => by simp [P.eqvs]
  | _ :: _, [] => by simp [P.eqvs]
  | x :: xs, y :: ys => by simp [P.eqvs, P.eqv, eqvs_strs xs ys]
theorem shps_strs (n : Nat) : ∀ xs : List (List Nat), P.shps n (xs.map .str) = true
  | [] => by simp [P.shps]
  | x :: xs => by simp [P.shps, P.shp, shps_strs n xs]
theorem range_sub {H h : Nat} (a : H < 10000) (b : h < 10000) : range1P [.int ((H : Int) - h + 1)] = some (rangeL 0 (H + 1 - h)) := by
  rw [range1P, if_pos (by omega)]
  congr 2
  omega
theorem range_get {n i : Nat} {x : P} (h : (rangeL 0 n)[i]? = some x) : x = .int i ∧ i < n := by
  obtain ⟨a, b⟩ := List.getElem?_eq_some_iff.mp h
  simp [rangeL] at a b
  exact ⟨b.symm, a⟩
@[simp] theorem range_len (lo : Int) (n : Nat) : (rangeL lo n).length = n := by simp [rangeL]
theorem append_at {xs : List P} (y : P) (h : xs.length < 16777216) : appendM (.lst xs) [y] = some (.lst (xs ++ [y]), .non) := by
  simp only [appendM]
  exact if_pos (show xs.length < line from h)
@[simp] theorem gone_new (S : Store) (o : O) : gone S S.length (S ++ [o]) = S := by
  simp [gone]
@[simp] theorem gone_last (S : Store) (o o2 : O) : gone (S ++ [o]) S.length (S ++ [o2]) = S ++ [.dead] := by
  simp [gone]
theorem compL_filterOn {α : Type} {chk : Store → Bool} {f : P → Store → R (Option P)} (emb : α → P) (keep : α → Bool) : ∀ {xs : List α} {S : Store}, chk S = true → (∀ x ∈ xs, f (emb x) S = .ok (if keep x then some (emb x) else none) S) → compL chk f (xs.map emb) S = .ok ((xs.filter keep).map emb) S
  | [], S, hc, h => by simp [compL, hc]
  | x :: r, S, hc, h => by
    rw [List.map_cons]
    unfold compL
    rw [if_pos hc, h x List.mem_cons_self]
    simp only [compL_filterOn emb keep hc fun y hy => h y (List.mem_cons_of_mem _ hy), R.bind_ok]
    cases hk : keep x <;> simp [List.filter_cons, hk]
/-- a for that goes on while g holds, else ends the def -/
theorem forL_allX {chk : Store → Bool} {f : P → Env → Store → RS} (g : P → Bool) (d : D) (E : Env → Prop) {S : Store} (hc : chk S = true) : ∀ {items : List P} {e : Env}, E e → (∀ x ∈ items, ∀ e, E e → ∃ e', E e' ∧ f x e S = if g x then .nx e' S else .ret d S) →
    ∃ e', E e' ∧ forL chk f items e S = if items.all g then .nx e' S else .ret d S
  | [], e, he, h => ⟨e, he, by simp [forL, hc]⟩
  | x :: r, e, he, h => by
    obtain ⟨e1, he1, q1⟩ := h x List.mem_cons_self e he
    obtain ⟨e2, he2, q2⟩ := forL_allX g d E hc (items := r) he1 fun y hy => h y (List.mem_cons_of_mem _ hy)
    refine ⟨e2, he2, ?_⟩
    unfold forL
    rw [if_pos hc, q1]
    cases hg : g x with
    | true => simp [hg, q2]
    | false => simp [hg]
theorem forL_all {C : Prop} {chk : Store → Bool} {f : P → Env → Store → RS} {items : List P} {e : Env} {S : Store} {r : RS} (hr : forL chk f items e S = r) (g : P → Bool) (d : D) (E : Env → Prop) (hc : chk S = true) (he : E e) (h : ∀ x ∈ items, ∀ e, E e → ∃ e', E e' ∧ f x e S = if g x then .nx e' S else .ret d S)
    (k : ∀ e', E e' → (r = if items.all g then .nx e' S else .ret d S) → C) : C := by
  obtain ⟨e', he', q⟩ := forL_allX g d E hc he h
  exact k e' he' (hr ▸ q)
theorem bools_map {α : Type} (g : α → Bool) : ∀ xs : List α, bools (xs.map fun x => P.bl (g x)) = some (xs.map g)
  | [] => rfl
  | x :: r => by rw [List.map_cons, List.map_cons, bools, bools_map g r]
theorem all_map {α : Type} (g : α → Bool) (xs : List α) : allP [.lst (xs.map fun x => P.bl (g x))] = some (.bl (xs.all g)) := by
  simp only [allP, bools_map]
  simp [List.all_map, Function.comp_def]
theorem add_int (a b : Int) : addP [.int a, .int b] = some (.int (a + b)) := rfl
theorem add_str {a b : List Nat} (h : a.length + b.length ≤ 16777216) : addP [.str a, .str b] = some (.str (a ++ b)) := by
  simp only [addP]
  exact if_pos (show a.length + b.length ≤ line from h)
theorem add_tup {a b : List P} (h : a.length + b.length ≤ 16777216) : addP [.tup a, .tup b] = some (.tup (a ++ b)) := by
  simp only [addP]
  exact if_pos (show a.length + b.length ≤ line from h)
theorem add_lst {a b : List P} (h : a.length + b.length ≤ 16777216) : addP [.lst a, .lst b] = some (.lst (a ++ b)) := by
  simp only [addP]
  exact if_pos (show a.length + b.length ≤ line from h)
theorem mul_tup {a : List P} {k : Nat} (h0 : a ≠ []) (h1 : 2 ≤ k) (h2 : k ≤ 1000) (h3 : a.length ≤ 1000) : mulP [.tup a, .int k] = some (.tup (List.replicate k a).flatten) := by
  simp only [mulP]
  rw [if_pos ⟨h0, by omega, by omega, h3⟩]
  rfl
theorem mul_str {a : List Nat} {k : Nat} (h1 : 2 ≤ k) (h2 : k ≤ 1000) (h0 : 1 ≤ a.length) (h3 : a.length ≤ 1000) : mulP [.str a, .int k] = some (.str (List.replicate k a).flatten) := by
  simp only [mulP]
  rw [if_pos ⟨by omega, by omega, h0, h3⟩]
  rfl
theorem slice_tupE1 (x : List P) (n : Nat) : sliceP [.tup x, .int ((n : Int) + 1), .non] = some (.tup (x.drop (n + 1))) := slice_tupE x (n + 1)
theorem slice_strE1 (x : List Nat) (n : Nat) : sliceP [.str x, .int ((n : Int) + 1), .non] = some (.str (x.drop (n + 1))) := slice_strE x (n + 1)
theorem slice_lstE1 (x : List P) (n : Nat) : sliceP [.lst x, .int ((n : Int) + 1), .non] = some (.lst (x.drop (n + 1))) := slice_lstE x (n + 1)
/-- an index within -/
theorem ix_lst {xs : List P} {v : Int} (h0 : 0 ≤ v) (h1 : v < xs.length) : ∃ y, ixP [.lst xs, .int v] = some y ∧ y ∈ xs := by
  obtain ⟨n, rfl⟩ : ∃ n : Nat, v = n := ⟨v.toNat, by omega⟩
  have hn : n < xs.length := by omega
  exact ⟨xs[n], by simp [ixP, atP, ixN', hn], List.getElem_mem hn⟩
end DL

namespace DL
def ir_row_good : Fn := ⟨2, 1,
  (.cons (.ret (.and_ (.op (isiP "str") (.cons (.v 0) .nil)) (.and_ (.op eqP (.cons (.op lenQ (.cons (.v 0) .nil)) (.cons (.v 1) .nil))) (.op allP (.cons (.comp [2] (.one 2) itemsP (.cons (.v 0) .nil) (.c (.bl true)) (.op inSignP (.cons (.v 2) (.cons (.c (.str [97, 98, 99, 100, 101, 102, 103, 104, 105, 106, 107, 108, 109, 110, 111, 112, 113, 114, 115, 116, 117, 118, 119, 120, 121, 122])) .nil)))) .nil)))))
  .nil)⟩
def ir_floor_good : Fn := ⟨1, 1,
  (.cons (.iff (.or_ (.not_ (.op (isiP "tuple") (.cons (.v 0) .nil))) (.or_ (.op ltP (.cons (.op lenQ (.cons (.v 0) .nil)) (.cons (.c (.int 1)) .nil))) (.op gtP (.cons (.op lenQ (.cons (.v 0) .nil)) (.cons (.c (.int 64)) .nil))))) (.cons (.ret (.c (.bl false)))
  .nil) .nil)
  (.cons (.iff (.or_ (.not_ (.op (isiP "str") (.cons (.op ixP (.cons (.v 0) (.cons (.c (.int 0)) .nil))) .nil))) (.or_ (.op ltP (.cons (.op lenQ (.cons (.op ixP (.cons (.v 0) (.cons (.c (.int 0)) .nil))) .nil)) (.cons (.c (.int 1)) .nil))) (.op gtP (.cons (.op lenQ (.cons (.op ixP (.cons (.v 0) (.cons (.c (.int 0)) .nil))) .nil)) (.cons (.c (.int 64)) .nil))))) (.cons (.ret (.c (.bl false)))
  .nil) .nil)
  (.cons (.ret (.op allP (.cons (.comp [1] (.one 1) itemsP (.cons (.v 0) .nil) (.c (.bl true)) (.call 451 (.cons (.v 1) (.cons (.op lenQ (.cons (.op ixP (.cons (.v 0) (.cons (.c (.int 0)) .nil))) .nil)) .nil)))) .nil)))
  .nil)))⟩
def ir_law_cell_at : Fn := ⟨2, 0,
  (.cons (.iff (.op ltP (.cons (.v 1) (.cons (.op lenQ (.cons (.v 0) .nil)) .nil))) (.cons (.ret (.op ixP (.cons (.v 0) (.cons (.v 1) .nil))))
  .nil) .nil)
  (.cons (.ret (.c (.int 0)))
  .nil))⟩
def ir_law_next : Fn := ⟨1, 0,
  (.cons (.asg (.one 0) (.op modP (.cons (.op addP (.cons (.v 0) (.cons (.c (.int 7919)) .nil))) (.cons (.c (.int 2147483647)) .nil))))
  (.cons (.ret (.op modP (.cons (.op addP (.cons (.op addP (.cons (.op mulP (.cons (.v 0) (.cons (.v 0) .nil))) (.cons (.op mulP (.cons (.c (.int 48271)) (.cons (.v 0) .nil))) .nil))) (.cons (.c (.int 12345)) .nil))) (.cons (.c (.int 2147483629)) .nil))))
  .nil))⟩
def ir_law_pen_of : Fn := ⟨1, 1,
  (.cons (.asg (.one 1) (.op max2P (.cons (.v 0) (.cons (.op subP (.cons (.c (.int 0)) (.cons (.v 0) .nil))) .nil))))
  (.cons (.ret (.new (.pk lstP (.cons (.v 1) (.cons (.op intP (.cons (.op geP (.cons (.v 1) (.cons (.op powP (.cons (.c (.int 10)) (.cons (.c (.int 18)) .nil))) .nil))) .nil)) (.cons (.op modP (.cons (.v 1) (.cons (.c (.int 1000003)) .nil))) .nil))))))
  .nil))⟩
def ir_law_draw : Fn := ⟨2, 1,
  (.cons (.iff (.op eqP (.cons (.op ixP (.cons (.v 0) (.cons (.c (.int 1)) .nil))) (.cons (.c (.int 1)) .nil))) (.cons (.asg (.one 2) (.op modP (.cons (.op ixP (.cons (.v 0) (.cons (.c (.int 0)) .nil))) (.cons (.v 1) .nil))))
  (.cons (.sub setM (.v 0) (.c (.int 0)) (.op fdivP (.cons (.op ixP (.cons (.v 0) (.cons (.c (.int 0)) .nil))) (.cons (.v 1) .nil))))
  (.cons (.ret (.v 2))
  .nil))) .nil)
  (.cons (.sub setM (.v 0) (.c (.int 2)) (.call 247 (.cons (.op addP (.cons (.call 247 (.cons (.op ixP (.cons (.v 0) (.cons (.c (.int 2)) .nil))) .nil)) (.cons (.c (.int 7)) .nil))) .nil)))
  (.cons (.ret (.op modP (.cons (.op fdivP (.cons (.op ixP (.cons (.v 0) (.cons (.c (.int 2)) .nil))) (.cons (.c (.int 64)) .nil))) (.cons (.v 1) .nil))))
  .nil)))⟩
def ir_law_floor_by : Fn := ⟨3, 4,
  (.cons (.asg (.one 3) (.op addP (.cons (.c (.int 1)) (.cons (.call 111 (.cons (.v 0) (.cons (.v 2) .nil))) .nil))))
  (.cons (.asg (.one 4) (.new (.pk lstP .nil)))
  (.cons (.for_ (.one 5) range1P (.cons (.op addP (.cons (.c (.int 1)) (.cons (.call 111 (.cons (.v 0) (.cons (.v 2) .nil))) .nil))) .nil) (.cons (.expr (.mut (isTy "list") appendM (.v 4) (.cons (.meth (isTy "str") joinP (.c (.str [])) (.cons (.comp [6] (.one 6) range1P (.cons (.v 3) .nil) (.c (.bl true)) (.op ixP (.cons (.v 1) (.cons (.call 111 (.cons (.v 0) (.cons (.op lenQ (.cons (.v 1) .nil)) .nil))) .nil)))) .nil)) .nil)))
  .nil))
  (.cons (.ret (.op tupleP (.cons (.v 4) .nil)))
  .nil))))⟩
def ir_law_floor_good_k01 : Fn := ⟨1, 2,
  (.cons (.iff (.or_ (.not_ (.op (isiP "tuple") (.cons (.v 0) .nil))) (.op notInRangeP (.cons (.op lenQ (.cons (.v 0) .nil)) (.cons (.c (.int 1)) (.cons (.c (.int 65)) .nil))))) (.cons (.ret (.c (.bl false)))
  .nil) .nil)
  (.cons (.iff (.not_ (.op allP (.cons (.comp [1] (.one 1) itemsP (.cons (.v 0) .nil) (.c (.bl true)) (.op (isiP "str") (.cons (.v 1) .nil))) .nil))) (.cons (.ret (.c (.bl false)))
  .nil) .nil)
  (.cons (.iff (.op notInRangeP (.cons (.op lenQ (.cons (.op ixP (.cons (.v 0) (.cons (.c (.int 0)) .nil))) .nil)) (.cons (.c (.int 1)) (.cons (.c (.int 65)) .nil)))) (.cons (.ret (.c (.bl false)))
  .nil) .nil)
  (.cons (.for_ (.one 1) itemsP (.cons (.v 0) .nil) (.cons (.iff (.or_ (.op neP (.cons (.op lenQ (.cons (.v 1) .nil)) (.cons (.op lenQ (.cons (.op ixP (.cons (.v 0) (.cons (.c (.int 0)) .nil))) .nil)) .nil))) (.op neP (.cons (.comp [2] (.one 2) itemsP (.cons (.v 1) .nil) (.op notInSignP (.cons (.v 2) (.cons (.c (.str [97, 98, 99, 100, 101, 102, 103, 104, 105, 106, 107, 108, 109, 110, 111, 112, 113, 114, 115, 116, 117, 118, 119, 120, 121, 122])) .nil))) (.v 2)) (.cons (.pk lstP .nil) .nil)))) (.cons (.ret (.c (.bl false)))
  .nil) .nil)
  .nil))
  (.cons (.ret (.c (.bl true)))
  .nil)))))⟩
def ir_law_odd_floor_k01 : Fn := ⟨2, 7,
  (.cons (.asg (.one 2) (.call 111 (.cons (.v 1) (.cons (.op lenQ (.cons (.v 0) .nil)) .nil))))
  (.cons (.asg (.one 3) (.op ixP (.cons (.v 0) (.cons (.v 2) .nil))))
  (.cons (.asg (.one 4) (.call 111 (.cons (.v 1) (.cons (.op lenQ (.cons (.v 3) .nil)) .nil))))
  (.cons (.asg (.one 5) (.pk lstP (.cons (.c (.str [65])) (.cons (.c (.str [49])) (.cons (.c (.str [32])) (.cons (.c (.str [])) (.cons (.c (.str [45])) (.cons (.c (.str [97, 98])) (.cons (.c (.str [122])) .nil)))))))))
  (.cons (.asg (.one 6) (.op addP (.cons (.op addP (.cons (.op sliceP (.cons (.v 3) (.cons (.c .non) (.cons (.part (.v 4)) .nil)))) (.cons (.op ixP (.cons (.v 5) (.cons (.call 111 (.cons (.v 1) (.cons (.c (.int 7)) .nil))) .nil))) .nil))) (.cons (.op sliceP (.cons (.v 3) (.cons (.part (.op addP (.cons (.v 4) (.cons (.c (.int 1)) .nil)))) (.cons (.c .non) .nil)))) .nil))))
  (.cons (.asg (.one 7) (.pk lstP (.cons (.v 6) (.cons (.op sliceP (.cons (.v 3) (.cons (.part (.c (.int 1))) (.cons (.c .non) .nil)))) (.cons (.op addP (.cons (.v 3) (.cons (.op sliceP (.cons (.v 3) (.cons (.c .non) (.cons (.part (.c (.int 1))) .nil)))) .nil))) (.cons (.c (.str [])) (.cons (.op listQ (.cons (.v 3) .nil)) (.cons (.c .non) (.cons (.c (.bl true)) (.cons (.pk tupP (.cons (.v 3) .nil)) .nil))))))))))
  (.cons (.iff (.op eqP (.cons (.call 111 (.cons (.v 1) (.cons (.c (.int 2)) .nil))) (.cons (.c (.int 0)) .nil))) (.cons (.ret (.op addP (.cons (.op addP (.cons (.op sliceP (.cons (.v 0) (.cons (.c .non) (.cons (.part (.v 2)) .nil)))) (.cons (.pk tupP (.cons (.op ixP (.cons (.v 7) (.cons (.call 111 (.cons (.v 1) (.cons (.c (.int 8)) .nil))) .nil))) .nil)) .nil))) (.cons (.op sliceP (.cons (.v 0) (.cons (.part (.op addP (.cons (.v 2) (.cons (.c (.int 1)) .nil)))) (.cons (.c .non) .nil)))) .nil))))
  .nil) .nil)
  (.cons (.asg (.one 8) (.pk lstP (.cons (.op addP (.cons (.op sliceP (.cons (.v 0) (.cons (.c .non) (.cons (.part (.v 2)) .nil)))) (.cons (.op sliceP (.cons (.v 0) (.cons (.part (.op addP (.cons (.v 2) (.cons (.c (.int 1)) .nil)))) (.cons (.c .non) .nil)))) .nil))) (.cons (.op addP (.cons (.op addP (.cons (.op sliceP (.cons (.v 0) (.cons (.c .non) (.cons (.part (.v 2)) .nil)))) (.cons (.op sliceP (.cons (.v 0) (.cons (.part (.v 2)) (.cons (.part (.op addP (.cons (.v 2) (.cons (.c (.int 1)) .nil)))) .nil)))) .nil))) (.cons (.op sliceP (.cons (.v 0) (.cons (.part (.v 2)) (.cons (.c .non) .nil)))) .nil))) (.cons (.op listQ (.cons (.v 0) .nil)) .nil)))))
  (.cons (.asg (.one 8) (.op addP (.cons (.v 8) (.cons (.pk lstP (.cons (.meth (isTy "str") joinP (.c (.str [])) (.cons (.v 0) .nil)) (.cons (.op ixP (.cons (.v 0) (.cons (.c (.int 0)) .nil))) (.cons (.c .non) (.cons (.pk tupP .nil) (.cons (.pk tupP (.cons (.c (.str [])) .nil)) (.cons (.pk tupP (.cons (.v 0) .nil)) (.cons (.op mulP (.cons (.op sliceP (.cons (.v 0) (.cons (.c .non) (.cons (.part (.c (.int 1))) .nil)))) (.cons (.c (.int 64)) .nil))) (.cons (.op mulP (.cons (.op sliceP (.cons (.v 0) (.cons (.c .non) (.cons (.part (.c (.int 1))) .nil)))) (.cons (.c (.int 65)) .nil))) .nil))))))))) .nil))))
  (.cons (.asg (.one 8) (.op addP (.cons (.v 8) (.cons (.pk lstP (.cons (.pk tupP (.cons (.op mulP (.cons (.c (.str [97])) (.cons (.c (.int 64)) .nil))) .nil)) (.cons (.pk tupP (.cons (.op mulP (.cons (.c (.str [97])) (.cons (.c (.int 65)) .nil))) .nil)) (.cons (.pk dnewP .nil) (.cons (.c (.int 7)) .nil))))) .nil))))
  (.cons (.ret (.op ixP (.cons (.v 8) (.cons (.call 111 (.cons (.v 1) (.cons (.c (.int 15)) .nil))) .nil))))
  .nil)))))))))))⟩
def ir_law_right_k01 : Fn := ⟨1, 1,
  (.cons (.asg (.one 1) (.call 46 (.cons (.v 0) .nil)))
  (.cons (.ret (.and_ (.op (isiP "bool") (.cons (.v 1) .nil)) (.and_ (.op eqP (.cons (.v 1) (.cons (.call 143 (.cons (.v 0) .nil)) .nil))) (.op eqP (.cons (.call 46 (.cons (.v 0) .nil)) (.cons (.v 1) .nil))))))
  .nil))⟩
def ir_law_k01 : Fn := ⟨1, 5,
  (.cons (.for_ (.one 1) itemsP (.cons (.pk lstP (.cons (.pk tupP (.cons (.c (.str [97])) .nil)) (.cons (.pk tupP (.cons (.c (.str [])) .nil)) (.cons (.pk tupP .nil) (.cons (.c (.str [97])) (.cons (.pk lstP (.cons (.c (.str [97])) .nil)) (.cons (.pk tupP (.cons (.c (.str [97])) (.cons (.c (.str [98, 99])) .nil))) (.cons (.pk tupP (.cons (.c (.str [65])) .nil)) (.cons (.op mulP (.cons (.pk tupP (.cons (.op mulP (.cons (.c (.str [97])) (.cons (.c (.int 64)) .nil))) .nil)) (.cons (.c (.int 64)) .nil))) (.cons (.pk tupP (.cons (.op mulP (.cons (.c (.str [97])) (.cons (.c (.int 65)) .nil))) .nil)) .nil)))))))))) .nil) (.cons (.iff (.not_ (.call 306 (.cons (.v 1) .nil))) (.cons (.ret (.c (.bl false)))
  .nil) .nil)
  .nil))
  (.cons (.for_ (.one 2) itemsP (.cons (.op addP (.cons (.pk lstP (.cons (.call 86 (.cons (.v 0) (.cons (.c (.int 0)) .nil))) .nil)) (.cons (.op sliceP (.cons (.v 0) (.cons (.part (.c (.int 1))) (.cons (.part (.c (.int 8))) .nil)))) .nil))) .nil) (.cons (.asg (.one 3) (.call 285 (.cons (.v 2) .nil)))
  (.cons (.asg (.one 4) (.call 142 (.cons (.v 3) (.cons (.c (.str [97, 98, 99, 120, 121, 122])) (.cons (.op ixP (.cons (.pk lstP (.cons (.c (.int 3)) (.cons (.c (.int 8)) (.cons (.c (.int 16)) .nil)))) (.cons (.call 111 (.cons (.v 3) (.cons (.c (.int 3)) .nil))) .nil))) .nil)))))
  (.cons (.iff (.not_ (.call 306 (.cons (.v 4) .nil))) (.cons (.ret (.c (.bl false)))
  .nil) .nil)
  (.cons (.for_ (.one 5) range1P (.cons (.c (.int 4)) .nil) (.cons (.iff (.not_ (.call 306 (.cons (.call 257 (.cons (.v 4) (.cons (.v 3) .nil))) .nil))) (.cons (.ret (.c (.bl false)))
  .nil) .nil)
  .nil))
  .nil)))))
  (.cons (.ret (.c (.bl true)))
  .nil)))⟩
end DL

/-! SpPen: pens, draws, floors drawn -/
namespace DL
theorem log2_small {a : Int} {n : Nat} (h : a.natAbs < 2 ^ n) (hn : 0 < n) : a.natAbs.log2 < n := by
  by_cases h0 : a.natAbs = 0
  · rw [h0]; simpa using hn
  · exact (Nat.log2_lt h0).mpr h
theorem mul_small {a b : Int} (ha : a.natAbs < 2 ^ 64) (hb : b.natAbs < 2 ^ 64) : mulP [.int a, .int b] = some (.int (a * b)) := by
  have h1 := log2_small ha (by decide)
  have h2 := log2_small hb (by decide)
  simp only [mulP]
  rw [if_pos (by omega)]
/-- a pen -/
def IsPen (o : O) : Prop := ∃ a b c : Int, o = .lst [.int a, .int b, .int c]
theorem IsPen.flat {o : O} (h : IsPen o) : flatO o = true := by
  obtain ⟨a, b, c, rfl⟩ := h
  rfl
theorem IsPen.ok {o : O} (h : IsPen o) (S : Store) (l : Nat) : okT S (S.set l o) = true := by
  have := okT_set S [] l o h.flat
  rwa [List.append_nil] at this
theorem IsPen.mk (a b c : Int) : IsPen (.lst [.int a, .int b, .int c]) := ⟨a, b, c, rfl⟩
def nextI (s : Int) : Int := ((s + 7919) % 2147483647 * ((s + 7919) % 2147483647) + 48271 * ((s + 7919) % 2147483647) + 12345) % 2147483629
/-- what a draw tells, what it leaves of the pen -/
def drawI (a b c m : Int) : Int := if b = 1 then a % m else nextI (nextI c + 7) / 64 % m
def drawO (a b c m : Int) : O := if b = 1 then .lst [.int (a / m), .int b, .int c] else .lst [.int a, .int b, .int (nextI (nextI c + 7))]
theorem drawO_pen (a b c m : Int) : IsPen (drawO a b c m) := by
  unfold drawO
  split
  · exact ⟨_, _, _, rfl⟩
  · exact ⟨_, _, _, rfl⟩
section
variable {p : Prog} {k : Nat} (S : Store)
theorem next_spec (h : p 247 = some ir_law_next) (s : Int) : run p (k + 1) 247 [.p (.int s)] S = .ok (.p (.int (nextI s))) S := by
  have a1 : 0 ≤ (s + 7919) % 2147483647 := Int.emod_nonneg _ (by decide)
  have a2 : (s + 7919) % 2147483647 < 2147483647 := Int.emod_lt_of_pos _ (by decide)
  rw [run_at h S rfl]
  simp [ir_law_next, assignTg, opR, addP, modP, mul_small (a := (s + 7919) % 2147483647) (b := (s + 7919) % 2147483647) (by omega) (by omega), mul_small (a := 48271) (b := (s + 7919) % 2147483647) (by omega) (by omega), fin, nextI]
theorem cell_at_spec (h : p 86 = some ir_law_cell_at) (ns : List Int) (j : Nat) : run p (k + 1) 86 [.p (.scr (ns.map .int)), .p (.int j)] S = .ok (.p (.int (ns.getD j 0))) S := by
  rw [run_at h S rfl]
  by_cases hj : j < ns.length
  · simp [ir_law_cell_at, opR, lenQ, lenP, ltP, hj, ixP, atP, ixN', fin]
  · simp [ir_law_cell_at, opR, lenQ, lenP, ltP, hj, ixP, atP, ixN', fin, Nat.le_of_not_lt hj]
theorem pen_of_spec (h : p 285 = some ir_law_pen_of) (c : Int) : ∃ o, run p (k + 1) 285 [.p (.int c)] S = .ok (.ref S.length) (S ++ [o]) ∧ IsPen o := by
  rw [run_at h S rfl]
  refine ⟨_, ?_, IsPen.mk (if 0 - c > c then 0 - c else c) (if decide (1000000000000000000 ≤ (if 0 - c > c then 0 - c else c)) = true then 1 else 0) ((if 0 - c > c then 0 - c else c) % 1000003)⟩
  simp [ir_law_pen_of, opR, max2P, subP, assignTg, pkR, lstP, geP, powP, intP, modP, newD, fin]
theorem draw_spec (hd : p 111 = some ir_law_draw) (hn : p 247 = some ir_law_next) {l : Nat} {a b c m : Int} (hl : S[l]? = some (.lst [.int a, .int b, .int c])) (h0 : 0 < m) (h1 : m < 2 ^ 64) :
    run p (k + 2) 111 [.ref l, .p (.int m)] S = .ok (.p (.int (drawI a b c m))) (S.set l (drawO a b c m)) := by
  have hv : ∀ r, vals S (.ref l :: r) = (vals S r).map (P.lst [.int a, .int b, .int c] :: ·) := fun r => by simp [hl]
  have hlt : l < S.length := (List.getElem?_eq_some_iff.mp hl).1
  have hv2 : ∀ (xs : List P) r, vals (S.set l (.lst xs)) (.ref l :: r) = (vals (S.set l (.lst xs)) r).map (P.lst xs :: ·) := fun xs r => by simp [hlt]
  have hm : m.natAbs.log2 < 9000 := Nat.lt_of_lt_of_le (log2_small (n := 64) (by omega) (by decide)) (by decide)
  rw [run_at hd S rfl]
  by_cases hb : b = 1
  · simp [ir_law_draw, opR, hv, ixP, atP, ixN', eqP, P.shp, P.eqv, hb, assignTg, modP, h0, fdivP, hm, mutD, hl, setM, fin, drawI, drawO, List.take_of_length_le, show Nat.log2 64 < 9000 by decide]
  · simp [ir_law_draw, opR, hv, hv2, ixP, atP, ixN', eqP, P.shp, P.eqv, hb, assignTg, modP, h0, fdivP, hm, mutD, hl, setM, fin, drawI, drawO, addP, next_spec _ hn, List.take_of_length_le, show Nat.log2 64 < 9000 by decide]
/-- at l stands a pen -/
def PenAt (S : Store) (l : Nat) : Prop := ∃ a b c : Int, S[l]? = some (.lst [.int a, .int b, .int c])
theorem PenAt.set {S : Store} {l : Nat} {o : O} (h : PenAt S l) (ho : IsPen o) : PenAt (S.set l o) l := by
  obtain ⟨a, b, c, h⟩ := h
  obtain ⟨a', b', c', rfl⟩ := ho
  exact ⟨a', b', c', by rw [List.getElem?_set_self (List.getElem?_eq_some_iff.mp h).1]⟩
theorem PenAt.app {S : Store} {l : Nat} (J : Store) (h : PenAt S l) : PenAt (S ++ J) l := by
  obtain ⟨a, b, c, h⟩ := h
  exact ⟨a, b, c, by rw [List.getElem?_append_left (List.getElem?_eq_some_iff.mp h).1]; exact h⟩
theorem PenAt.lt {S : Store} {l : Nat} (h : PenAt S l) : l < S.length := by
  obtain ⟨a, b, c, h⟩ := h
  exact (List.getElem?_eq_some_iff.mp h).1
theorem nextI_nn (s : Int) : 0 ≤ nextI s := Int.emod_nonneg _ (by decide)
theorem draw_ex (hd : p 111 = some ir_law_draw) (hn : p 247 = some ir_law_next) {l : Nat} {m : Int} (hp : PenAt S l) (h0 : 0 < m) (h1 : m < 2 ^ 64) :
    ∃ v o, run p (k + 2) 111 [.ref l, .p (.int m)] S = .ok (.p (.int v)) (S.set l o) ∧ IsPen o ∧ 0 ≤ v ∧ v < m := by
  obtain ⟨a, b, c, hl⟩ := hp
  refine ⟨_, _, draw_spec S hd hn hl h0 h1, drawO_pen a b c m, ?_, ?_⟩
  · unfold drawI
    split
    · exact Int.emod_nonneg _ (by omega)
    · exact Int.emod_nonneg _ (by omega)
  · unfold drawI
    split
    · exact Int.emod_lt_of_pos _ h0
    · exact Int.emod_lt_of_pos _ h0
theorem strsP_map : ∀ xs : List (List Nat), strsP (xs.map .str) = some xs
  | [] => rfl
  | x :: r => by simp [strsP, strsP_map r]
theorem sum_ones : ∀ xs : List Nat, (List.map ((fun x : List Nat => x.length) ∘ fun c => [c]) xs).sum = xs.length
  | [] => rfl
  | x :: r => by
    rw [List.map_cons, List.sum_cons, sum_ones r, List.length_cons]
    simp
    omega
theorem joinL_nil : ∀ xs : List (List Nat), joinL [] xs = xs.flatten
  | [] => rfl
  | [x] => by simp [joinL]
  | x :: y :: r => by simp [joinL, joinL_nil (y :: r)]
def sgP (c : Nat) : P := .str [c]
def natP (i : Nat) : P := .int i
theorem strs_sg (xs : List Nat) : strsP (xs.map sgP) = some (xs.map fun c => [c]) := by
  rw [← strsP_map (xs.map fun c => [c]), List.map_map]
  rfl
theorem flat_ones : ∀ xs : List Nat, (xs.map fun c => [c]).flatten = xs
  | [] => rfl
  | x :: r => by rw [List.map_cons, List.flatten_cons, flat_ones r]; rfl
/-- signs joined -/
theorem join_sg {xs : List Nat} (h : xs.length ≤ 16777216) : joinP [.str [], .lst (xs.map sgP)] = some (.str xs) := by
  have hl : (List.map (fun x : List Nat => x.length) (xs.map fun c => [c])).sum = xs.length := by
    rw [List.map_map]
    exact sum_ones xs
  simp only [joinP, strs_sg, joinL_nil, flat_ones, hl, List.length_nil, Nat.mul_zero, Nat.add_zero]
  exact if_pos (show xs.length ≤ line from h)
theorem range_nat {n : Nat} (h : n ≤ 16777216) : range1P [.int n] = some ((List.range n).map natP) := by
  rw [range1P, if_pos (by omega)]
  congr 1
  simp [rangeL, natP]
/-- a floor: rows of one length, signs out of cs -/
structure IsFl (cs : List Nat) (rows : List (List Nat)) (n w : Nat) : Prop where
  n : rows.length = n
  w : ∀ r ∈ rows, r.length = w
  cs : ∀ r ∈ rows, ∀ c ∈ r, c ∈ cs
def flP (rows : List (List Nat)) : P := .tup (rows.map .str)
def FbE (l : Nat) (cs : List Nat) (b w : Nat) (S : Store) (e : Env) : Prop := ∃ x y, e = [some (.ref l), some (.p (.str cs)), some (.p (.int b)), some (.p (.int (1 + (w : Int)))), some (.ref S.length), x, y]
def FbI (l : Nat) (cs : List Nat) (b w : Nat) (S : Store) (i : Nat) (e : Env) (S' : Store) : Prop := FbE l cs b w S e ∧ ∃ (rows : List (List Nat)) (o : O), S' = S.set l o ++ [.lst (rows.map .str)] ∧ IsPen o ∧ IsFl cs rows i (w + 1)
def FbC (l : Nat) (cs : List Nat) (S : Store) (rows : List (List Nat)) (ys : List P) (S' : Store) : Prop := ∃ (o : O) (xs : List Nat), ys = xs.map (fun c => P.str [c]) ∧ S' = S.set l o ++ [.lst (rows.map .str)] ∧ IsPen o ∧ ∀ c ∈ xs, c ∈ cs
theorem floor_by_spec (hf : p 142 = some ir_law_floor_by) (hd : p 111 = some ir_law_draw) (hn : p 247 = some ir_law_next) {l : Nat} {cs : List Nat} {b : Nat} (hp : PenAt S l) (hc0 : 0 < cs.length) (hc : cs.length < 1000) (h0 : 0 < b) (h1 : b < 1000) :
    ∃ rows o n w, run p (k + 3) 142 [.ref l, .p (.str cs), .p (.int b)] S = .ok (.p (flP rows)) (S.set l o) ∧ IsPen o ∧ IsFl cs rows n w ∧ 1 ≤ n ∧ n ≤ b ∧ 1 ≤ w ∧ w ≤ b := by
  rw [run_at hf S rfl]
  obtain ⟨v1, o1, e1, p1, l1, g1⟩ := draw_ex (k := k) S hd hn (m := b) hp (by omega) (by omega)
  have hp1 := (hp.set p1).app [.lst []]
  obtain ⟨v2, o2, e2, p2, l2, g2⟩ := draw_ex (k := k) _ hd hn (m := b) hp1 (by omega) (by omega)
  have hlt := hp.lt
  obtain ⟨w, rfl⟩ : ∃ w : Nat, v1 = w := ⟨v1.toNat, by omega⟩
  obtain ⟨n, rfl⟩ : ∃ n : Nat, v2 = n := ⟨v2.toNat, by omega⟩
  rw [List.set_append_left _ _ (by simpa using hlt), List.set_set] at e2
  have hr : range1P [.int (1 + n)] = some (rangeL 0 (n + 1)) := by
    rw [range1P, if_pos (by omega)]
    congr 2
    omega
  have hr2 : range1P [.int (1 + w)] = some (rangeL 0 (w + 1)) := by
    rw [range1P, if_pos (by omega)]
    congr 2
    omega
  simp [ir_law_floor_by, e1, opR, addP, assignTg, pkR, lstP, newD, e2, itemsR, hr]
  generalize hfor : forL _ _ _ _ _ = r
  refine forL_elim hfor (FbI l cs b w S) (by simp) ⟨⟨none, none, rfl⟩, [], o2, rfl, p2, rfl, by simp, by simp⟩ ?_ ?_
  · rintro i x hx e S1 ⟨⟨y, z, rfl⟩, rows, o, rfl, p3, fl⟩
    simp [forItem_k, assignTg, itemsR, mutR, methR, hr2, wipeD, isTy]
    generalize hcomp : compL _ _ _ _ = r
    refine compL_elim hcomp (FbC l cs S rows) (by simp) ⟨o, [], rfl, rfl, p3, by simp⟩ ?_ ?_
    · rintro j x hx zs S2 hz ⟨o3, xs, rfl, rfl, p4, hin⟩
      obtain ⟨v, o4, e4, p5, l5, g5⟩ := draw_ex (k := k) (S.set l o3 ++ [.lst (rows.map .str)]) hd hn (l := l) (m := cs.length) ((hp.set p4).app _) (by omega) (by omega)
      rw [List.set_append_left _ _ (by simpa using hlt), List.set_set] at e4
      obtain ⟨v, rfl⟩ : ∃ n : Nat, v = n := ⟨v.toNat, by omega⟩
      have hv : v < cs.length := by omega
      simp [cpItem_k, assignTg, wipeD, opR, lenQ, lenP, e4, ixP, atP, ixN', hv]
      refine ⟨o4, xs ++ [cs[v]], by simp, rfl, p5, ?_⟩
      intro c hc
      rcases List.mem_append.mp hc with h | h
      · exact hin c h
      · rw [List.mem_singleton.mp h]
        exact List.getElem_mem hv
    · rintro zs S2 rfl hz ⟨o3, xs, rfl, rfl, p4, hin⟩
      have hs : strsP (xs.map fun c => P.str [c]) = some (xs.map fun c => [c]) := by
        rw [← strsP_map (xs.map fun c => [c]), List.map_map]
        rfl
      simp [rangeL] at hz
      have hj : (xs.map fun c => [c]).flatten = xs := by rw [← List.flatMap_def]; simp
      have hl : (List.map ((fun x : List Nat => x.length) ∘ fun c => [c]) xs).sum = xs.length := sum_ones xs
      have hlr := fl.n
      have hi : i ≤ 1000 := by
        have := (List.getElem?_eq_some_iff.mp hx).1
        simp [rangeL] at this
        omega
      simp [opR, joinP, hs, joinL_nil, hj, hl, hz, line, (by omega : w + 1 ≤ 16777216), appendM, (by omega : rows.length < 16777216)]
      refine ⟨⟨_, _, rfl⟩, rows ++ [xs], o3, by simp, p4, by simp [hlr], ?_, ?_⟩
      · intro r hr
        rcases List.mem_append.mp hr with h | h
        · exact fl.w r h
        · rw [List.mem_singleton.mp h, hz]
      · intro r hr
        rcases List.mem_append.mp hr with h | h
        · exact fl.cs r h
        · rw [List.mem_singleton.mp h]
          exact hin
  · rintro e' S' rfl ⟨⟨x, y, rfl⟩, rows, o, rfl, p3, fl⟩
    simp [opR, tupleP, okT_set S _ l o p3.flat]
    exact ⟨rows, o, ⟨rfl, rfl⟩, p3, n + 1, w + 1, by simpa [rangeL] using fl, by omega, by omega, by omega, by omega⟩
end
/-! ### floors -/
theorem flP_eqv (xs ys : List (List Nat)) : P.eqv (flP xs) (flP ys) = decide (xs = ys) := by
  simp only [flP, P.eqv, eqvs_strs]
theorem flP_shp (xs : List (List Nat)) : P.shp 60 (flP xs) = true := by
  simp only [flP, P.shp, shps_strs]
def hd0 (rows : List (List Nat)) : List Nat := rows.headD []
theorem ix_head {rows : List (List Nat)} (h : rows ≠ []) : ixP [.tup (rows.map .str), .int 0] = some (.str (hd0 rows)) := by
  cases rows with
  | nil => exact absurd rfl h
  | cons r rs => simp [ixP, atP, ixN', hd0]
mutual
theorem eqv_self : ∀ (n : Nat) (x : P), x.shp n = true → P.eqv x x = true
  | n, .non, h => by simp [P.eqv]
  | n, .bl b, h => by simp [P.eqv]
  | n, .int i, h => by simp [P.eqv]
  | n, .str x, h => by simp [P.eqv]
  | 0, .tup xs, h => by simp [P.shp] at h
  | 0, .lst xs, h => by simp [P.shp] at h
  | n + 1, .tup xs, h => by
    simp only [P.shp] at h
    simp only [P.eqv]
    exact eqvs_self n xs h
  | n + 1, .lst xs, h => by
    simp only [P.shp] at h
    simp only [P.eqv]
    exact eqvs_self n xs h
  | n, .dic _ _, h => by cases n <;> simp [P.shp] at h
  | n, .scr _, h => by cases n <;> simp [P.shp] at h
theorem eqvs_self : ∀ (n : Nat) (xs : List P), P.shps n xs = true → P.eqvs xs xs = true
  | n, [], h => by simp [P.eqvs]
  | n, x :: r, h => by
    simp only [P.shps, Bool.and_eq_true] at h
    simp only [P.eqvs, eqv_self n x h.1, eqvs_self n r h.2, Bool.and_self]
end
theorem eq_same {x : P} (h : x.shp 60 = true) : eqP [x, x] = some (.bl true) := by simp [eqP, h, eqv_self 60 x h]
theorem ne_same {x : P} (h : x.shp 60 = true) : neP [x, x] = some (.bl false) := by simp [neP, h, eqv_self 60 x h]
theorem ne_int (a b : Int) : neP [.int a, .int b] = some (.bl (!decide (a = b))) := by simp [neP, P.shp, P.eqv]
theorem eq_int (a b : Int) : eqP [.int a, .int b] = some (.bl (decide (a = b))) := by simp [eqP, P.shp, P.eqv]
theorem eq_bl (a b : Bool) : eqP [.bl a, .bl b] = some (.bl (a == b)) := by simp [eqP, P.shp, P.eqv]
end DL

set_option maxRecDepth 100000
set_option maxHeartbeats 2000000
namespace DL
namespace k01
open PySem PySem.Spec PyProof.Rows L2
def topS (i : Nat) : Stmt := PySem.Challenge.pw_tilegrow_k01_what_is_a_floor.main.body.getD i (.Pass ⟨0, 0, 0, 0⟩)
abbrev s_row_good : Stmt := topS 3
theorem sc_row_good : FnScope ["thing", "size", "sign"] ["thing", "size"] (defScope s_row_good) := ⟨rfl, rfl, rfl, by decide +kernel, rfl, by decide +kernel, by decide +kernel⟩
abbrev s_floor_good : Stmt := topS 4
theorem sc_floor_good : FnScope ["thing", "row"] ["thing"] (defScope s_floor_good) := ⟨rfl, rfl, rfl, by decide +kernel, rfl, by decide +kernel, by decide +kernel⟩
abbrev s_law_cell_at : Stmt := topS 6
theorem sc_law_cell_at : FnScope ["script", "k"] ["script", "k"] (defScope s_law_cell_at) := ⟨rfl, rfl, rfl, by decide +kernel, rfl, by decide +kernel, by decide +kernel⟩
abbrev s_law_next : Stmt := topS 7
theorem sc_law_next : FnScope ["seed"] ["seed"] (defScope s_law_next) := ⟨rfl, rfl, rfl, by decide +kernel, rfl, by decide +kernel, by decide +kernel⟩
abbrev s_law_pen_of : Stmt := topS 8
theorem sc_law_pen_of : FnScope ["cell", "left"] ["cell"] (defScope s_law_pen_of) := ⟨rfl, rfl, rfl, by decide +kernel, rfl, by decide +kernel, by decide +kernel⟩
abbrev s_law_draw : Stmt := topS 9
theorem sc_law_draw : FnScope ["pen", "many", "found"] ["pen", "many"] (defScope s_law_draw) := ⟨rfl, rfl, rfl, by decide +kernel, rfl, by decide +kernel, by decide +kernel⟩
abbrev s_law_floor_by : Stmt := topS 10
theorem sc_law_floor_by : FnScope ["pen", "tiles", "most", "wide", "rows", "row", "column"] ["pen", "tiles", "most"] (defScope s_law_floor_by) := ⟨rfl, rfl, rfl, by decide +kernel, rfl, by decide +kernel, by decide +kernel⟩
abbrev s_law_floor_good_k01 : Stmt := topS 11
theorem sc_law_floor_good_k01 : FnScope ["thing", "row", "sign"] ["thing"] (defScope s_law_floor_good_k01) := ⟨rfl, rfl, rfl, by decide +kernel, rfl, by decide +kernel, by decide +kernel⟩
abbrev s_law_odd_floor_k01 : Stmt := topS 12
theorem sc_law_odd_floor_k01 : FnScope ["floor", "pen", "spot", "row", "at", "signs", "changed", "rows", "some"] ["floor", "pen"] (defScope s_law_odd_floor_k01) := ⟨rfl, rfl, rfl, by decide +kernel, rfl, by decide +kernel, by decide +kernel⟩
abbrev s_law_right_k01 : Stmt := topS 13
theorem sc_law_right_k01 : FnScope ["thing", "found"] ["thing"] (defScope s_law_right_k01) := ⟨rfl, rfl, rfl, by decide +kernel, rfl, by decide +kernel, by decide +kernel⟩
abbrev s_law_k01 : Stmt := topS 14
theorem sc_law_k01 : FnScope ["script", "thing", "cell", "pen", "floor", "turn"] ["script"] (defScope s_law_k01) := ⟨rfl, rfl, rfl, by decide +kernel, rfl, by decide +kernel, by decide +kernel⟩
def prog : Prog := fun i =>
  if i = 451 then some ir_row_good else
  if i = 46 then some ir_floor_good else
  if i = 86 then some ir_law_cell_at else
  if i = 247 then some ir_law_next else
  if i = 285 then some ir_law_pen_of else
  if i = 111 then some ir_law_draw else
  if i = 142 then some ir_law_floor_by else
  if i = 143 then some ir_law_floor_good_k01 else
  if i = 257 then some ir_law_odd_floor_k01 else
  if i = 306 then some ir_law_right_k01 else
  if i = 163 then some ir_law_k01 else
  none
abbrev cl : Cls_ := fun _ => none
structure Tx (K : PySem.W.Frag) (mg : Str → Option Value) (ad : Nat → Addr) (fds : Nat → FuncData) (tks : Nat → Tok) : Prop where
  f_row_good : Fun K "row_good" "row_good" s_row_good (ad 0) (fds 0)
  g_row_good : mg "row_good" = some (.ref (ad 0))
  b_row_good : Binds K (fds 0) ["thing", "size"] []
  f_floor_good : Fun K "floor_good" "floor_good" s_floor_good (ad 1) (fds 1)
  g_floor_good : mg "floor_good" = some (.ref (ad 1))
  b_floor_good : Binds K (fds 1) ["thing"] []
  f_law_cell_at : Fun K "_law_cell_at" "_law_cell_at" s_law_cell_at (ad 2) (fds 2)
  g_law_cell_at : mg "_law_cell_at" = some (.ref (ad 2))
  b_law_cell_at : Binds K (fds 2) ["script", "k"] []
  f_law_next : Fun K "_law_next" "_law_next" s_law_next (ad 3) (fds 3)
  g_law_next : mg "_law_next" = some (.ref (ad 3))
  b_law_next : Binds K (fds 3) ["seed"] []
  f_law_pen_of : Fun K "_law_pen_of" "_law_pen_of" s_law_pen_of (ad 4) (fds 4)
  g_law_pen_of : mg "_law_pen_of" = some (.ref (ad 4))
  b_law_pen_of : Binds K (fds 4) ["cell"] []
  f_law_draw : Fun K "_law_draw" "_law_draw" s_law_draw (ad 5) (fds 5)
  g_law_draw : mg "_law_draw" = some (.ref (ad 5))
  b_law_draw : Binds K (fds 5) ["pen", "many"] []
  f_law_floor_by : Fun K "_law_floor_by" "_law_floor_by" s_law_floor_by (ad 6) (fds 6)
  g_law_floor_by : mg "_law_floor_by" = some (.ref (ad 6))
  b_law_floor_by : Binds K (fds 6) ["pen", "tiles", "most"] []
  f_law_floor_good_k01 : Fun K "_law_floor_good" "_law_floor_good" s_law_floor_good_k01 (ad 7) (fds 7)
  g_law_floor_good_k01 : mg "_law_floor_good" = some (.ref (ad 7))
  b_law_floor_good_k01 : Binds K (fds 7) ["thing"] []
  f_law_odd_floor_k01 : Fun K "_law_odd_floor" "_law_odd_floor" s_law_odd_floor_k01 (ad 8) (fds 8)
  g_law_odd_floor_k01 : mg "_law_odd_floor" = some (.ref (ad 8))
  b_law_odd_floor_k01 : Binds K (fds 8) ["floor", "pen"] []
  f_law_right_k01 : Fun K "_law_right" "_law_right" s_law_right_k01 (ad 9) (fds 9)
  g_law_right_k01 : mg "_law_right" = some (.ref (ad 9))
  b_law_right_k01 : Binds K (fds 9) ["thing"] []
  f_law_k01 : Fun K "law" "law" s_law_k01 (ad 10) (fds 10)
  g_law_k01 : mg "law" = some (.ref (ad 10))
  b_law_k01 : Binds K (fds 10) ["script"] []
  z_all : mg "all" = none
  z_bool : mg "bool" = none
  z_int : mg "int" = none
  z_isinstance : mg "isinstance" = none
  z_len : mg "len" = none
  z_list : mg "list" = none
  z_max : mg "max" = none
  z_range : mg "range" = none
  z_str : mg "str" = none
  z_tuple : mg "tuple" = none
  c_LETTERS : mg "LETTERS" = some (.str "abcdefghijklmnopqrstuvwxyz" (tks 0))
  c_MOST_SIZE : mg "MOST_SIZE" = some (.int 64 (tks 1))
structure Ok (Pg : Program) (wd : World) (K : PySem.W.Frag) (mg : Str → Option Value) (base : Heap) (ad : Nat → Addr) (fds : Nat → FuncData) (k : Nat) : Prop where
  c_row_good : FnOk Pg wd K mg base (L2.CX Pg wd) k (ad 0) (fds 0) ["thing", "size"] (spD K cl 2 (run prog k 451))
  c_floor_good : FnOk Pg wd K mg base (L2.CX Pg wd) k (ad 1) (fds 1) ["thing"] (spD K cl 1 (run prog k 46))
  c_law_cell_at : FnOk Pg wd K mg base (L2.CX Pg wd) k (ad 2) (fds 2) ["script", "k"] (spD K cl 2 (run prog k 86))
  c_law_next : FnOk Pg wd K mg base (L2.CX Pg wd) k (ad 3) (fds 3) ["seed"] (spD K cl 1 (run prog k 247))
  c_law_pen_of : FnOk Pg wd K mg base (L2.CX Pg wd) k (ad 4) (fds 4) ["cell"] (spD K cl 1 (run prog k 285))
  c_law_draw : FnOk Pg wd K mg base (L2.CX Pg wd) k (ad 5) (fds 5) ["pen", "many"] (spD K cl 2 (run prog k 111))
  c_law_floor_by : FnOk Pg wd K mg base (L2.CX Pg wd) k (ad 6) (fds 6) ["pen", "tiles", "most"] (spD K cl 3 (run prog k 142))
  c_law_floor_good_k01 : FnOk Pg wd K mg base (L2.CX Pg wd) k (ad 7) (fds 7) ["thing"] (spD K cl 1 (run prog k 143))
  c_law_odd_floor_k01 : FnOk Pg wd K mg base (L2.CX Pg wd) k (ad 8) (fds 8) ["floor", "pen"] (spD K cl 2 (run prog k 257))
  c_law_right_k01 : FnOk Pg wd K mg base (L2.CX Pg wd) k (ad 9) (fds 9) ["thing"] (spD K cl 1 (run prog k 306))
  c_law_k01 : FnOk Pg wd K mg base (L2.CX Pg wd) k (ad 10) (fds 10) ["script"] (spD K cl 1 (run prog k 163))
section
variable {Pg : Program} {wd : World} {K : PySem.W.Frag} {mg : Str → Option Value} {base : Heap} {ad : Nat → Addr} {fds : Nat → FuncData} {tks : Nat → Tok} {k : Nat}
theorem ok_row_good (T : Tx K mg ad fds tks) (C : Ok Pg wd K mg base ad fds k) : FnOk Pg wd K mg base (L2.CX Pg wd) (k + 1) (ad 0) (fds 0) ["thing", "size"] (spD K cl 2 (run prog (k + 1) 451)) := by
  refine fn_okD (rn := run prog k) (nv := 1) (body := ir_row_good.body) T.f_row_good sc_row_good rfl rfl fun cdv A outer s H E hr => ?_
  exact (dss_cons (ds_ret (de_and (de_isi (T := "str") (.inr (.inr (.inl rfl))) (by rfl) (by rfl) T.z_isinstance (by rfl) T.z_str (by decide +kernel) (by decide) (by decide) (de_var 0 (by rfl) (by first | exact Or.inl rfl | exact Or.inr (Or.inl rfl) | exact Or.inr (Or.inr rfl)) (by decide) (by decide)) (by rfl) (by rfl) (by rfl)) (de_and (de_cmp (op_eqD hr.units) ov_eq (de_callB call_len ov_lenQ (by rfl) T.z_len (by decide +kernel) (da_cons (de_var 0 (by rfl) (by first | exact Or.inl rfl | exact Or.inr (Or.inl rfl) | exact Or.inr (Or.inr rfl)) (by decide) (by decide)) da_nil (by rfl)) (by decide) (by decide) (by rfl) (by rfl)) (de_var 1 (by rfl) (by first | exact Or.inl rfl | exact Or.inr (Or.inl rfl) | exact Or.inr (Or.inr rfl)) (by decide) (by decide)) (nomark _)) (de_one (de_callB (cr_all (by rfl)) ov_all (by rfl) T.z_all (by decide +kernel) (da_cons ((fe_comp (own := [("sign", 2)]) (by rfl) sc_row_good.nd (di_any (de_var 0 (by rfl) (by first | exact Or.inl rfl | exact Or.inr (Or.inl rfl) | exact Or.inr (Or.inr rfl)) (by decide) (by decide))) (blkOk_by (N := ["thing", "size", "sign"]) (sc := defScope s_row_good) (by decide +kernel)) (by decide) (fun _ _ _ _ _ => (dgt_name sc_row_good.nd (by rfl) (by first | exact Or.inl rfl | exact Or.inr rfl) (by first | exact Or.inl rfl | exact Or.inr rfl))) (fun _ _ _ _ _ => dts_nil) (fun _ _ _ _ _ => (de_cmp op_in_sign ov_inSign (de_var 2 (by rfl) (by first | exact Or.inl rfl | exact Or.inr (Or.inl rfl) | exact Or.inr (Or.inr rfl)) (by decide) (by decide)) (de_globS (by rfl) T.c_LETTERS (by decide +kernel) (okS_of (by decide +kernel)) (by decide)) (by rfl))) (fun _ => (by rfl)))).de da_nil (by rfl)) (by decide) (by decide) (by rfl) (by rfl))))))
  dss_nil)
theorem ok_floor_good (T : Tx K mg ad fds tks) (C : Ok Pg wd K mg base ad fds k) : FnOk Pg wd K mg base (L2.CX Pg wd) (k + 1) (ad 1) (fds 1) ["thing"] (spD K cl 1 (run prog (k + 1) 46)) := by
  refine fn_okD (rn := run prog k) (nv := 1) (body := ir_floor_good.body) T.f_floor_good sc_floor_good rfl rfl fun cdv A outer s H E hr => ?_
  exact (dss_cons (ds_if (dw_or (dt_not (dt_val (de_isi (T := "tuple") (.inr (.inr (.inr (.inl rfl)))) (by rfl) (by rfl) T.z_isinstance (by rfl) T.z_tuple (by decide +kernel) (by decide) (by decide) (de_var 0 (by rfl) (by first | exact Or.inl rfl | exact Or.inr (Or.inl rfl) | exact Or.inr (Or.inr rfl)) (by decide) (by decide)) (by rfl) (by rfl) (by rfl)) (fun _ => (by rfl)))) (dw_or (dt_cmp op_lt ov_lt (de_callB call_len ov_lenQ (by rfl) T.z_len (by decide +kernel) (da_cons (de_var 0 (by rfl) (by first | exact Or.inl rfl | exact Or.inr (Or.inl rfl) | exact Or.inr (Or.inr rfl)) (by decide) (by decide)) da_nil (by rfl)) (by decide) (by decide) (by rfl) (by rfl)) de_int (nomark _)) (dw_or1 (dt_cmp op_gt ov_gt (de_callB call_len ov_lenQ (by rfl) T.z_len (by decide +kernel) (da_cons (de_var 0 (by rfl) (by first | exact Or.inl rfl | exact Or.inr (Or.inl rfl) | exact Or.inr (Or.inr rfl)) (by decide) (by decide)) da_nil (by rfl)) (by decide) (by decide) (by rfl) (by rfl)) (de_globI (by rfl) T.c_MOST_SIZE (by decide)) (nomark _))))).t (dss_cons (ds_ret de_bl)
  dss_nil) dss_nil)
  (dss_cons (ds_if (dw_or (dt_not (dt_val (de_isi (T := "str") (.inr (.inr (.inl rfl))) (by rfl) (by rfl) T.z_isinstance (by rfl) T.z_str (by decide +kernel) (by decide) (by decide) (de_ix ix_seq ov_ix (de_var 0 (by rfl) (by first | exact Or.inl rfl | exact Or.inr (Or.inl rfl) | exact Or.inr (Or.inr rfl)) (by decide) (by decide)) de_int (fun _ _ => (by rfl))) (by rfl) (by rfl) (by rfl)) (fun _ => (by rfl)))) (dw_or (dt_cmp op_lt ov_lt (de_callB call_len ov_lenQ (by rfl) T.z_len (by decide +kernel) (da_cons (de_ix ix_seq ov_ix (de_var 0 (by rfl) (by first | exact Or.inl rfl | exact Or.inr (Or.inl rfl) | exact Or.inr (Or.inr rfl)) (by decide) (by decide)) de_int (fun _ _ => (by rfl))) da_nil (by rfl)) (by decide) (by decide) (by rfl) (by rfl)) de_int (nomark _)) (dw_or1 (dt_cmp op_gt ov_gt (de_callB call_len ov_lenQ (by rfl) T.z_len (by decide +kernel) (da_cons (de_ix ix_seq ov_ix (de_var 0 (by rfl) (by first | exact Or.inl rfl | exact Or.inr (Or.inl rfl) | exact Or.inr (Or.inr rfl)) (by decide) (by decide)) de_int (fun _ _ => (by rfl))) da_nil (by rfl)) (by decide) (by decide) (by rfl) (by rfl)) (de_globI (by rfl) T.c_MOST_SIZE (by decide)) (nomark _))))).t (dss_cons (ds_ret de_bl)
  dss_nil) dss_nil)
  (dss_cons (ds_ret (de_callB (cr_all (by rfl)) ov_all (by rfl) T.z_all (by decide +kernel) (da_cons ((fe_comp (own := [("row", 1)]) (by rfl) sc_floor_good.nd (di_any (de_var 0 (by rfl) (by first | exact Or.inl rfl | exact Or.inr (Or.inl rfl) | exact Or.inr (Or.inr rfl)) (by decide) (by decide))) (blkOk_by (N := ["thing", "row"]) (sc := defScope s_floor_good) (by decide +kernel)) (by decide) (fun _ _ _ _ _ => (dgt_name sc_floor_good.nd (by rfl) (by first | exact Or.inl rfl | exact Or.inr rfl) (by first | exact Or.inl rfl | exact Or.inr rfl))) (fun _ _ _ _ _ => dts_nil) (fun _ _ _ _ _ => (de_call C.c_row_good hr (by rfl) T.g_row_good T.f_row_good.kp T.b_row_good takes0 (da_cons (de_var 1 (by rfl) (by first | exact Or.inl rfl | exact Or.inr (Or.inl rfl) | exact Or.inr (Or.inr rfl)) (by decide) (by decide)) (da_cons (de_callB call_len ov_lenQ (by rfl) T.z_len (by decide +kernel) (da_cons (de_ix ix_seq ov_ix (de_var 0 (by rfl) (by first | exact Or.inl rfl | exact Or.inr (Or.inl rfl) | exact Or.inr (Or.inr rfl)) (by decide) (by decide)) de_int (fun _ _ => (by rfl))) da_nil (by rfl)) (by decide) (by decide) (by rfl) (by rfl)) da_nil (by rfl)) (by rfl)) (by rfl) (by decide) (by rfl) (by rfl))) (fun _ => (by rfl)))).de da_nil (by rfl)) (by decide) (by decide) (by rfl) (by rfl)))
  dss_nil)))
theorem ok_law_cell_at (T : Tx K mg ad fds tks) (C : Ok Pg wd K mg base ad fds k) : FnOk Pg wd K mg base (L2.CX Pg wd) (k + 1) (ad 2) (fds 2) ["script", "k"] (spD K cl 2 (run prog (k + 1) 86)) := by
  refine fn_okD (rn := run prog k) (nv := 0) (body := ir_law_cell_at.body) T.f_law_cell_at sc_law_cell_at rfl rfl fun cdv A outer s H E hr => ?_
  exact (dss_cons (ds_if (dt_cmp op_lt ov_lt (de_var 1 (by rfl) (by first | exact Or.inl rfl | exact Or.inr (Or.inl rfl) | exact Or.inr (Or.inr rfl)) (by decide) (by decide)) (de_callB call_len ov_lenQ (by rfl) T.z_len (by decide +kernel) (da_cons (de_var 0 (by rfl) (by first | exact Or.inl rfl | exact Or.inr (Or.inl rfl) | exact Or.inr (Or.inr rfl)) (by decide) (by decide)) da_nil (by rfl)) (by decide) (by decide) (by rfl) (by rfl)) (nomark _)) (dss_cons (ds_ret (de_ix ix_seq ov_ix (de_var 0 (by rfl) (by first | exact Or.inl rfl | exact Or.inr (Or.inl rfl) | exact Or.inr (Or.inr rfl)) (by decide) (by decide)) (de_var 1 (by rfl) (by first | exact Or.inl rfl | exact Or.inr (Or.inl rfl) | exact Or.inr (Or.inr rfl)) (by decide) (by decide)) (fun _ _ => (by rfl))))
  dss_nil) dss_nil)
  (dss_cons (ds_ret de_int)
  dss_nil))
theorem ok_law_next (T : Tx K mg ad fds tks) (C : Ok Pg wd K mg base ad fds k) : FnOk Pg wd K mg base (L2.CX Pg wd) (k + 1) (ad 3) (fds 3) ["seed"] (spD K cl 1 (run prog (k + 1) 247)) := by
  refine fn_okD (rn := run prog k) (nv := 0) (body := ir_law_next.body) T.f_law_next sc_law_next rfl rfl fun cdv A outer s H E hr => ?_
  exact (dss_cons (ds_set sc_law_next.nd (by rfl) (by first | exact Or.inl rfl | exact Or.inr rfl) (de_bin op_mod ov_mod (de_bin op_addAll ov_add (de_var 0 (by rfl) (by first | exact Or.inl rfl | exact Or.inr (Or.inl rfl) | exact Or.inr (Or.inr rfl)) (by decide) (by decide)) de_int) de_int) (by rfl) (Or.inl rfl))
  (dss_cons (ds_ret (de_bin op_mod ov_mod (de_bin op_addAll ov_add (de_bin op_addAll ov_add (de_bin op_mulAll ov_mul (de_var 0 (by rfl) (by first | exact Or.inl rfl | exact Or.inr (Or.inl rfl) | exact Or.inr (Or.inr rfl)) (by decide) (by decide)) (de_var 0 (by rfl) (by first | exact Or.inl rfl | exact Or.inr (Or.inl rfl) | exact Or.inr (Or.inr rfl)) (by decide) (by decide))) (de_bin op_mulAll ov_mul de_int (de_var 0 (by rfl) (by first | exact Or.inl rfl | exact Or.inr (Or.inl rfl) | exact Or.inr (Or.inr rfl)) (by decide) (by decide)))) de_int) de_int))
  dss_nil))
theorem ok_law_pen_of (T : Tx K mg ad fds tks) (C : Ok Pg wd K mg base ad fds k) : FnOk Pg wd K mg base (L2.CX Pg wd) (k + 1) (ad 4) (fds 4) ["cell"] (spD K cl 1 (run prog (k + 1) 285)) := by
  refine fn_okD (rn := run prog k) (nv := 1) (body := ir_law_pen_of.body) T.f_law_pen_of sc_law_pen_of rfl rfl fun cdv A outer s H E hr => ?_
  exact (dss_cons (ds_set sc_law_pen_of.nd (by rfl) (by first | exact Or.inl rfl | exact Or.inr rfl) (de_callB (call_max2 (by rfl)) ov_max2 (by rfl) T.z_max (by decide +kernel) (da_cons (de_var 0 (by rfl) (by first | exact Or.inl rfl | exact Or.inr (Or.inl rfl) | exact Or.inr (Or.inr rfl)) (by decide) (by decide)) (da_cons (de_bin op_sub ov_sub de_int (de_var 0 (by rfl) (by first | exact Or.inl rfl | exact Or.inr (Or.inl rfl) | exact Or.inr (Or.inr rfl)) (by decide) (by decide))) da_nil (by rfl)) (by rfl)) (by decide) (by decide) (by rfl) (by rfl)) (by rfl) (Or.inl rfl))
  (dss_cons (ds_ret ((fe_lst (da_cons (de_var 1 (by rfl) (by first | exact Or.inl rfl | exact Or.inr (Or.inl rfl) | exact Or.inr (Or.inr rfl)) (by decide) (by decide)) (da_cons (de_callTy call_int1 ov_int (by rfl) T.z_int (by decide +kernel) (da_cons (de_cmp op_ge ov_ge (de_var 1 (by rfl) (by first | exact Or.inl rfl | exact Or.inr (Or.inl rfl) | exact Or.inr (Or.inr rfl)) (by decide) (by decide)) (de_bin op_pow ov_pow de_int de_int) (nomark _)) da_nil (by rfl)) (by decide) (by decide) (by rfl) (by rfl)) (da_cons (de_bin op_mod ov_mod (de_var 1 (by rfl) (by first | exact Or.inl rfl | exact Or.inr (Or.inl rfl) | exact Or.inr (Or.inr rfl)) (by decide) (by decide)) de_int) da_nil (by rfl)) (by rfl)) (by rfl)) (by decide))).new)
  dss_nil))
theorem ok_law_draw (T : Tx K mg ad fds tks) (C : Ok Pg wd K mg base ad fds k) : FnOk Pg wd K mg base (L2.CX Pg wd) (k + 1) (ad 5) (fds 5) ["pen", "many"] (spD K cl 2 (run prog (k + 1) 111)) := by
  refine fn_okD (rn := run prog k) (nv := 1) (body := ir_law_draw.body) T.f_law_draw sc_law_draw rfl rfl fun cdv A outer s H E hr => ?_
  exact (dss_cons (ds_if (dt_cmp (op_eqD hr.units) ov_eq (de_ix ix_seq ov_ix (de_var 0 (by rfl) (by first | exact Or.inl rfl | exact Or.inr (Or.inl rfl) | exact Or.inr (Or.inr rfl)) (by decide) (by decide)) de_int (fun _ _ => (by rfl))) de_int (nomark _)) (dss_cons (ds_set sc_law_draw.nd (by rfl) (by first | exact Or.inl rfl | exact Or.inr rfl) (de_bin op_mod ov_mod (de_ix ix_seq ov_ix (de_var 0 (by rfl) (by first | exact Or.inl rfl | exact Or.inr (Or.inl rfl) | exact Or.inr (Or.inr rfl)) (by decide) (by decide)) de_int (fun _ _ => (by rfl))) (de_var 1 (by rfl) (by first | exact Or.inl rfl | exact Or.inr (Or.inl rfl) | exact Or.inr (Or.inr rfl)) (by decide) (by decide))) (by rfl) (Or.inl rfl))
  (dss_cons (ds_sub set_list oset_list setM_nd (de_bin op_fdivW ov_fdiv (de_ix ix_seq ov_ix (de_var 0 (by rfl) (by first | exact Or.inl rfl | exact Or.inr (Or.inl rfl) | exact Or.inr (Or.inr rfl)) (by decide) (by decide)) de_int (fun _ _ => (by rfl))) (de_var 1 (by rfl) (by first | exact Or.inl rfl | exact Or.inr (Or.inl rfl) | exact Or.inr (Or.inr rfl)) (by decide) (by decide))) (de_var 0 (by rfl) (by first | exact Or.inl rfl | exact Or.inr (Or.inl rfl) | exact Or.inr (Or.inr rfl)) (by decide) (by decide)) de_int (fun _ => (by rfl)) (by rfl) (by rfl) (by rfl))
  (dss_cons (ds_ret (de_var 2 (by rfl) (by first | exact Or.inl rfl | exact Or.inr (Or.inl rfl) | exact Or.inr (Or.inr rfl)) (by decide) (by decide)))
  dss_nil))) dss_nil)
  (dss_cons (ds_sub set_list oset_list setM_nd (de_call C.c_law_next hr (by rfl) T.g_law_next T.f_law_next.kp T.b_law_next (takes_of rfl rfl rfl rfl) (da_cons (de_bin op_addAll ov_add (de_call C.c_law_next hr (by rfl) T.g_law_next T.f_law_next.kp T.b_law_next (takes_of rfl rfl rfl rfl) (da_cons (de_ix ix_seq ov_ix (de_var 0 (by rfl) (by first | exact Or.inl rfl | exact Or.inr (Or.inl rfl) | exact Or.inr (Or.inr rfl)) (by decide) (by decide)) de_int (fun _ _ => (by rfl))) da_nil (by rfl)) (by rfl) (by decide) (by rfl) (by rfl)) de_int) da_nil (by rfl)) (by rfl) (by decide) (by rfl) (by rfl)) (de_var 0 (by rfl) (by first | exact Or.inl rfl | exact Or.inr (Or.inl rfl) | exact Or.inr (Or.inr rfl)) (by decide) (by decide)) de_int (fun _ => (by rfl)) (by rfl) (by rfl) (by rfl))
  (dss_cons (ds_ret (de_bin op_mod ov_mod (de_bin op_fdivW ov_fdiv (de_ix ix_seq ov_ix (de_var 0 (by rfl) (by first | exact Or.inl rfl | exact Or.inr (Or.inl rfl) | exact Or.inr (Or.inr rfl)) (by decide) (by decide)) de_int (fun _ _ => (by rfl))) de_int) (de_var 1 (by rfl) (by first | exact Or.inl rfl | exact Or.inr (Or.inl rfl) | exact Or.inr (Or.inr rfl)) (by decide) (by decide))))
  dss_nil)))
theorem ok_law_floor_by (T : Tx K mg ad fds tks) (C : Ok Pg wd K mg base ad fds k) : FnOk Pg wd K mg base (L2.CX Pg wd) (k + 1) (ad 6) (fds 6) ["pen", "tiles", "most"] (spD K cl 3 (run prog (k + 1) 142)) := by
  refine fn_okD (rn := run prog k) (nv := 4) (body := ir_law_floor_by.body) T.f_law_floor_by sc_law_floor_by rfl rfl fun cdv A outer s H E hr => ?_
  exact (dss_cons (ds_set sc_law_floor_by.nd (by rfl) (by first | exact Or.inl rfl | exact Or.inr rfl) (de_bin op_addAll ov_add de_int (de_call C.c_law_draw hr (by rfl) T.g_law_draw T.f_law_draw.kp T.b_law_draw (takes_of rfl rfl rfl rfl) (da_cons (de_var 0 (by rfl) (by first | exact Or.inl rfl | exact Or.inr (Or.inl rfl) | exact Or.inr (Or.inr rfl)) (by decide) (by decide)) (da_cons (de_var 2 (by rfl) (by first | exact Or.inl rfl | exact Or.inr (Or.inl rfl) | exact Or.inr (Or.inr rfl)) (by decide) (by decide)) da_nil (by rfl)) (by rfl)) (by rfl) (by decide) (by rfl) (by rfl))) (by rfl) (Or.inl rfl))
  (dss_cons (ds_set sc_law_floor_by.nd (by rfl) (by first | exact Or.inl rfl | exact Or.inr rfl) ((fe_lst da_nil (by decide))).new (by rfl) (Or.inl rfl))
  (dss_cons (ds_for (passes_of rfl) (by rfl) (di_range1 (by rfl) T.z_range (da_cons (de_bin op_addAll ov_add de_int (de_call C.c_law_draw hr (by rfl) T.g_law_draw T.f_law_draw.kp T.b_law_draw (takes_of rfl rfl rfl rfl) (da_cons (de_var 0 (by rfl) (by first | exact Or.inl rfl | exact Or.inr (Or.inl rfl) | exact Or.inr (Or.inr rfl)) (by decide) (by decide)) (da_cons (de_var 2 (by rfl) (by first | exact Or.inl rfl | exact Or.inr (Or.inl rfl) | exact Or.inr (Or.inr rfl)) (by decide) (by decide)) da_nil (by rfl)) (by rfl)) (by rfl) (by decide) (by rfl) (by rfl))) da_nil (by rfl)) (by rfl)) (dg_name sc_law_floor_by.nd (by rfl) (by first | exact Or.inl rfl | exact Or.inr rfl) (by first | exact Or.inl rfl | exact Or.inr rfl)) (dss_cons (ds_expr (de_mut (by decide) PySem.F.plainAttrs_list PySem.F.slot_list_append PySem.F.type_list_append mt_appendR om_append appendM_ty (de_var 4 (by rfl) (by first | exact Or.inl rfl | exact Or.inr (Or.inl rfl) | exact Or.inr (Or.inr rfl)) (by decide) (by decide)) (da_cons (de_meth (by decide) PySem.F.plainAttrs_str PySem.F.slot_str_join PySem.F.type_str_join mt_join ov_join (de_str (by decide +kernel) (okS_of (by decide +kernel))) (da_cons ((fe_comp (own := [("column", 6)]) (by rfl) sc_law_floor_by.nd (di_range1 (by rfl) T.z_range (da_cons (de_var 3 (by rfl) (by first | exact Or.inl rfl | exact Or.inr (Or.inl rfl) | exact Or.inr (Or.inr rfl)) (by decide) (by decide)) da_nil (by rfl)) (by rfl)) (blkOk_by (N := ["pen", "tiles", "most", "wide", "rows", "row", "column"]) (sc := defScope s_law_floor_by) (by decide +kernel)) (by decide) (fun _ _ _ _ _ => (dgt_name sc_law_floor_by.nd (by rfl) (by first | exact Or.inl rfl | exact Or.inr rfl) (by first | exact Or.inl rfl | exact Or.inr rfl))) (fun _ _ _ _ _ => dts_nil) (fun _ _ _ _ _ => (de_ix ix_seq ov_ix (de_var 1 (by rfl) (by first | exact Or.inl rfl | exact Or.inr (Or.inl rfl) | exact Or.inr (Or.inr rfl)) (by decide) (by decide)) (de_call C.c_law_draw hr (by rfl) T.g_law_draw T.f_law_draw.kp T.b_law_draw takes0 (da_cons (de_var 0 (by rfl) (by first | exact Or.inl rfl | exact Or.inr (Or.inl rfl) | exact Or.inr (Or.inr rfl)) (by decide) (by decide)) (da_cons (de_callB call_len ov_lenQ (by rfl) T.z_len (by decide +kernel) (da_cons (de_var 1 (by rfl) (by first | exact Or.inl rfl | exact Or.inr (Or.inl rfl) | exact Or.inr (Or.inr rfl)) (by decide) (by decide)) da_nil (by rfl)) (by decide) (by decide) (by rfl) (by rfl)) da_nil (by rfl)) (by rfl)) (by rfl) (by decide) (by rfl) (by rfl)) (fun _ _ => (by rfl)))) (fun _ => (by rfl)))).de da_nil (by rfl)) (by rfl) (by rfl) (by rfl) (by rfl) (by rfl)) da_nil (by rfl)) (by rfl) (by rfl) (by rfl) (by rfl) (by rfl)) (by rfl))
  dss_nil) (fun _ => (by rfl)))
  (dss_cons (ds_ret (de_callTy call_tuple_of ov_tuple (by rfl) T.z_tuple (by decide +kernel) (da_cons (de_var 4 (by rfl) (by first | exact Or.inl rfl | exact Or.inr (Or.inl rfl) | exact Or.inr (Or.inr rfl)) (by decide) (by decide)) da_nil (by rfl)) (by decide) (by decide) (by rfl) (by rfl)))
  dss_nil))))
theorem ok_law_floor_good_k01 (T : Tx K mg ad fds tks) (C : Ok Pg wd K mg base ad fds k) : FnOk Pg wd K mg base (L2.CX Pg wd) (k + 1) (ad 7) (fds 7) ["thing"] (spD K cl 1 (run prog (k + 1) 143)) := by
  refine fn_okD (rn := run prog k) (nv := 2) (body := ir_law_floor_good_k01.body) T.f_law_floor_good_k01 sc_law_floor_good_k01 rfl rfl fun cdv A outer s H E hr => ?_
  exact (dss_cons (ds_if (dw_or (dt_not (dt_val (de_isi (T := "tuple") (.inr (.inr (.inr (.inl rfl)))) (by rfl) (by rfl) T.z_isinstance (by rfl) T.z_tuple (by decide +kernel) (by decide) (by decide) (de_var 0 (by rfl) (by first | exact Or.inl rfl | exact Or.inr (Or.inl rfl) | exact Or.inr (Or.inr rfl)) (by decide) (by decide)) (by rfl) (by rfl) (by rfl)) (fun _ => (by rfl)))) (dw_or1 (dt_notInRange (by rfl) T.z_range (de_callB call_len ov_lenQ (by rfl) T.z_len (by decide +kernel) (da_cons (de_var 0 (by rfl) (by first | exact Or.inl rfl | exact Or.inr (Or.inl rfl) | exact Or.inr (Or.inr rfl)) (by decide) (by decide)) da_nil (by rfl)) (by decide) (by decide) (by rfl) (by rfl)) (da_cons de_int (da_cons de_int da_nil (by rfl)) (by rfl)) (by rfl) (by rfl) (by rfl)))).t (dss_cons (ds_ret de_bl)
  dss_nil) dss_nil)
  (dss_cons (ds_if (dt_not (dt_val (de_callB (cr_all (by rfl)) ov_all (by rfl) T.z_all (by decide +kernel) (da_cons ((fe_comp (own := [("row", 1)]) (by rfl) sc_law_floor_good_k01.nd (di_any (de_var 0 (by rfl) (by first | exact Or.inl rfl | exact Or.inr (Or.inl rfl) | exact Or.inr (Or.inr rfl)) (by decide) (by decide))) (blkOk_by (N := ["thing", "row", "sign"]) (sc := defScope s_law_floor_good_k01) (by decide +kernel)) (by decide) (fun _ _ _ _ _ => (dgt_name sc_law_floor_good_k01.nd (by rfl) (by first | exact Or.inl rfl | exact Or.inr rfl) (by first | exact Or.inl rfl | exact Or.inr rfl))) (fun _ _ _ _ _ => dts_nil) (fun _ _ _ _ _ => (de_isi (T := "str") (.inr (.inr (.inl rfl))) (by rfl) (by rfl) T.z_isinstance (by rfl) T.z_str (by decide +kernel) (by decide) (by decide) (de_var 1 (by rfl) (by first | exact Or.inl rfl | exact Or.inr (Or.inl rfl) | exact Or.inr (Or.inr rfl)) (by decide) (by decide)) (by rfl) (by rfl) (by rfl))) (fun _ => (by rfl)))).de da_nil (by rfl)) (by decide) (by decide) (by rfl) (by rfl)) (fun _ => (by rfl)))) (dss_cons (ds_ret de_bl)
  dss_nil) dss_nil)
  (dss_cons (ds_if (dt_notInRange (by rfl) T.z_range (de_callB call_len ov_lenQ (by rfl) T.z_len (by decide +kernel) (da_cons (de_ix ix_seq ov_ix (de_var 0 (by rfl) (by first | exact Or.inl rfl | exact Or.inr (Or.inl rfl) | exact Or.inr (Or.inr rfl)) (by decide) (by decide)) de_int (fun _ _ => (by rfl))) da_nil (by rfl)) (by decide) (by decide) (by rfl) (by rfl)) (da_cons de_int (da_cons de_int da_nil (by rfl)) (by rfl)) (by rfl) (by rfl) (by rfl)) (dss_cons (ds_ret de_bl)
  dss_nil) dss_nil)
  (dss_cons (ds_for (passes_of rfl) (by rfl) (di_any (de_var 0 (by rfl) (by first | exact Or.inl rfl | exact Or.inr (Or.inl rfl) | exact Or.inr (Or.inr rfl)) (by decide) (by decide))) (dg_name sc_law_floor_good_k01.nd (by rfl) (by first | exact Or.inl rfl | exact Or.inr rfl) (by first | exact Or.inl rfl | exact Or.inr rfl)) (dss_cons (ds_if (dw_or (dt_cmp (op_neD hr.units) ov_ne (de_callB call_len ov_lenQ (by rfl) T.z_len (by decide +kernel) (da_cons (de_var 1 (by rfl) (by first | exact Or.inl rfl | exact Or.inr (Or.inl rfl) | exact Or.inr (Or.inr rfl)) (by decide) (by decide)) da_nil (by rfl)) (by decide) (by decide) (by rfl) (by rfl)) (de_callB call_len ov_lenQ (by rfl) T.z_len (by decide +kernel) (da_cons (de_ix ix_seq ov_ix (de_var 0 (by rfl) (by first | exact Or.inl rfl | exact Or.inr (Or.inl rfl) | exact Or.inr (Or.inr rfl)) (by decide) (by decide)) de_int (fun _ _ => (by rfl))) da_nil (by rfl)) (by decide) (by decide) (by rfl) (by rfl)) (nomark _)) (dw_or1 (dt_cmp (op_neD hr.units) ov_ne ((fe_comp (own := [("sign", 2)]) (by rfl) sc_law_floor_good_k01.nd (di_any (de_var 1 (by rfl) (by first | exact Or.inl rfl | exact Or.inr (Or.inl rfl) | exact Or.inr (Or.inr rfl)) (by decide) (by decide))) (blkOk_by (N := ["thing", "row", "sign"]) (sc := defScope s_law_floor_good_k01) (by decide +kernel)) (by decide) (fun _ _ _ _ _ => (dgt_name sc_law_floor_good_k01.nd (by rfl) (by first | exact Or.inl rfl | exact Or.inr rfl) (by first | exact Or.inl rfl | exact Or.inr rfl))) (fun _ _ _ _ _ => (dts_one (dt_cmp op_notIn_sign ov_notInSign (de_var 2 (by rfl) (by first | exact Or.inl rfl | exact Or.inr (Or.inl rfl) | exact Or.inr (Or.inr rfl)) (by decide) (by decide)) (de_str (by decide +kernel) (okS_of (by decide +kernel))) (by rfl)))) (fun _ _ _ _ _ => (de_var 2 (by rfl) (by first | exact Or.inl rfl | exact Or.inr (Or.inl rfl) | exact Or.inr (Or.inr rfl)) (by decide) (by decide))) (fun _ => (by rfl)))).de ((fe_lst da_nil (by decide))).de (nomark _)))).t (dss_cons (ds_ret de_bl)
  dss_nil) dss_nil)
  dss_nil) (fun _ => (by rfl)))
  (dss_cons (ds_ret de_bl)
  dss_nil)))))
theorem ok_law_odd_floor_k01 (T : Tx K mg ad fds tks) (C : Ok Pg wd K mg base ad fds k) : FnOk Pg wd K mg base (L2.CX Pg wd) (k + 1) (ad 8) (fds 8) ["floor", "pen"] (spD K cl 2 (run prog (k + 1) 257)) := by
  refine fn_okD (rn := run prog k) (nv := 7) (body := ir_law_odd_floor_k01.body) T.f_law_odd_floor_k01 sc_law_odd_floor_k01 rfl rfl fun cdv A outer s H E hr => ?_
  exact (dss_cons (ds_set sc_law_odd_floor_k01.nd (by rfl) (by first | exact Or.inl rfl | exact Or.inr rfl) (de_call C.c_law_draw hr (by rfl) T.g_law_draw T.f_law_draw.kp T.b_law_draw (takes_of rfl rfl rfl rfl) (da_cons (de_var 1 (by rfl) (by first | exact Or.inl rfl | exact Or.inr (Or.inl rfl) | exact Or.inr (Or.inr rfl)) (by decide) (by decide)) (da_cons (de_callB call_len ov_lenQ (by rfl) T.z_len (by decide +kernel) (da_cons (de_var 0 (by rfl) (by first | exact Or.inl rfl | exact Or.inr (Or.inl rfl) | exact Or.inr (Or.inr rfl)) (by decide) (by decide)) da_nil (by rfl)) (by decide) (by decide) (by rfl) (by rfl)) da_nil (by rfl)) (by rfl)) (by rfl) (by decide) (by rfl) (by rfl)) (by rfl) (Or.inl rfl))
  (dss_cons (ds_set sc_law_odd_floor_k01.nd (by rfl) (by first | exact Or.inl rfl | exact Or.inr rfl) (de_ix ix_seq ov_ix (de_var 0 (by rfl) (by first | exact Or.inl rfl | exact Or.inr (Or.inl rfl) | exact Or.inr (Or.inr rfl)) (by decide) (by decide)) (de_var 2 (by rfl) (by first | exact Or.inl rfl | exact Or.inr (Or.inl rfl) | exact Or.inr (Or.inr rfl)) (by decide) (by decide)) (fun _ _ => (by rfl))) (by rfl) (Or.inl rfl))
  (dss_cons (ds_set sc_law_odd_floor_k01.nd (by rfl) (by first | exact Or.inl rfl | exact Or.inr rfl) (de_call C.c_law_draw hr (by rfl) T.g_law_draw T.f_law_draw.kp T.b_law_draw (takes_of rfl rfl rfl rfl) (da_cons (de_var 1 (by rfl) (by first | exact Or.inl rfl | exact Or.inr (Or.inl rfl) | exact Or.inr (Or.inr rfl)) (by decide) (by decide)) (da_cons (de_callB call_len ov_lenQ (by rfl) T.z_len (by decide +kernel) (da_cons (de_var 3 (by rfl) (by first | exact Or.inl rfl | exact Or.inr (Or.inl rfl) | exact Or.inr (Or.inr rfl)) (by decide) (by decide)) da_nil (by rfl)) (by decide) (by decide) (by rfl) (by rfl)) da_nil (by rfl)) (by rfl)) (by rfl) (by decide) (by rfl) (by rfl)) (by rfl) (Or.inl rfl))
  (dss_cons (ds_set sc_law_odd_floor_k01.nd (by rfl) (by first | exact Or.inl rfl | exact Or.inr rfl) ((fe_lst (da_cons (de_str (by decide +kernel) (okS_of (by decide +kernel))) (da_cons (de_str (by decide +kernel) (okS_of (by decide +kernel))) (da_cons (de_str (by decide +kernel) (okS_of (by decide +kernel))) (da_cons (de_str (by decide +kernel) (okS_of (by decide +kernel))) (da_cons (de_str (by decide +kernel) (okS_of (by decide +kernel))) (da_cons (de_str (by decide +kernel) (okS_of (by decide +kernel))) (da_cons (de_str (by decide +kernel) (okS_of (by decide +kernel))) da_nil (by rfl)) (by rfl)) (by rfl)) (by rfl)) (by rfl)) (by rfl)) (by rfl)) (by decide))).de (by rfl) (Or.inl rfl))
  (dss_cons (ds_set sc_law_odd_floor_k01.nd (by rfl) (by first | exact Or.inl rfl | exact Or.inr rfl) (de_bin op_addAll ov_add (de_bin op_addAll ov_add (de_slice sl_all os_slice (de_var 3 (by rfl) (by first | exact Or.inl rfl | exact Or.inr (Or.inl rfl) | exact Or.inr (Or.inr rfl)) (by decide) (by decide)) do_none (do_some (de_var 4 (by rfl) (by first | exact Or.inl rfl | exact Or.inr (Or.inl rfl) | exact Or.inr (Or.inr rfl)) (by decide) (by decide)))) (de_ix ix_seq ov_ix (de_var 5 (by rfl) (by first | exact Or.inl rfl | exact Or.inr (Or.inl rfl) | exact Or.inr (Or.inr rfl)) (by decide) (by decide)) (de_call C.c_law_draw hr (by rfl) T.g_law_draw T.f_law_draw.kp T.b_law_draw (takes_of rfl rfl rfl rfl) (da_cons (de_var 1 (by rfl) (by first | exact Or.inl rfl | exact Or.inr (Or.inl rfl) | exact Or.inr (Or.inr rfl)) (by decide) (by decide)) (da_cons de_int da_nil (by rfl)) (by rfl)) (by rfl) (by decide) (by rfl) (by rfl)) (fun _ _ => (by rfl)))) (de_slice sl_all os_slice (de_var 3 (by rfl) (by first | exact Or.inl rfl | exact Or.inr (Or.inl rfl) | exact Or.inr (Or.inr rfl)) (by decide) (by decide)) (do_some (de_bin op_addAll ov_add (de_var 4 (by rfl) (by first | exact Or.inl rfl | exact Or.inr (Or.inl rfl) | exact Or.inr (Or.inr rfl)) (by decide) (by decide)) de_int)) do_none)) (by rfl) (Or.inl rfl))
  (dss_cons (ds_set sc_law_odd_floor_k01.nd (by rfl) (by first | exact Or.inl rfl | exact Or.inr rfl) ((fe_lst (da_cons (de_var 6 (by rfl) (by first | exact Or.inl rfl | exact Or.inr (Or.inl rfl) | exact Or.inr (Or.inr rfl)) (by decide) (by decide)) (da_cons (de_slice sl_all os_slice (de_var 3 (by rfl) (by first | exact Or.inl rfl | exact Or.inr (Or.inl rfl) | exact Or.inr (Or.inr rfl)) (by decide) (by decide)) (do_some de_int) do_none) (da_cons (de_bin op_addAll ov_add (de_var 3 (by rfl) (by first | exact Or.inl rfl | exact Or.inr (Or.inl rfl) | exact Or.inr (Or.inr rfl)) (by decide) (by decide)) (de_slice sl_all os_slice (de_var 3 (by rfl) (by first | exact Or.inl rfl | exact Or.inr (Or.inl rfl) | exact Or.inr (Or.inr rfl)) (by decide) (by decide)) do_none (do_some de_int))) (da_cons (de_str (by decide +kernel) (okS_of (by decide +kernel))) (da_cons ((fe_callTy (call_listQ (by rfl)) of_listQ listQ_lst (by rfl) T.z_list (by decide +kernel) (da_cons (de_var 3 (by rfl) (by first | exact Or.inl rfl | exact Or.inr (Or.inl rfl) | exact Or.inr (Or.inr rfl)) (by decide) (by decide)) da_nil (by rfl)) (by decide) (by decide) (by rfl) (by rfl))).de (da_cons de_non (da_cons de_bl (da_cons (de_tup (da_cons (de_var 3 (by rfl) (by first | exact Or.inl rfl | exact Or.inr (Or.inl rfl) | exact Or.inr (Or.inr rfl)) (by decide) (by decide)) da_nil (by rfl)) (by decide)) da_nil (by rfl)) (by rfl)) (by rfl)) (by rfl)) (by rfl)) (by rfl)) (by rfl)) (by rfl)) (by decide))).de (by rfl) (Or.inl rfl))
  (dss_cons (ds_if (dt_cmp (op_eqD hr.units) ov_eq (de_call C.c_law_draw hr (by rfl) T.g_law_draw T.f_law_draw.kp T.b_law_draw (takes_of rfl rfl rfl rfl) (da_cons (de_var 1 (by rfl) (by first | exact Or.inl rfl | exact Or.inr (Or.inl rfl) | exact Or.inr (Or.inr rfl)) (by decide) (by decide)) (da_cons de_int da_nil (by rfl)) (by rfl)) (by rfl) (by decide) (by rfl) (by rfl)) de_int (nomark _)) (dss_cons (ds_ret (de_bin op_addAll ov_add (de_bin op_addAll ov_add (de_slice sl_all os_slice (de_var 0 (by rfl) (by first | exact Or.inl rfl | exact Or.inr (Or.inl rfl) | exact Or.inr (Or.inr rfl)) (by decide) (by decide)) do_none (do_some (de_var 2 (by rfl) (by first | exact Or.inl rfl | exact Or.inr (Or.inl rfl) | exact Or.inr (Or.inr rfl)) (by decide) (by decide)))) (de_tup (da_cons (de_ix ix_seq ov_ix (de_var 7 (by rfl) (by first | exact Or.inl rfl | exact Or.inr (Or.inl rfl) | exact Or.inr (Or.inr rfl)) (by decide) (by decide)) (de_call C.c_law_draw hr (by rfl) T.g_law_draw T.f_law_draw.kp T.b_law_draw (takes_of rfl rfl rfl rfl) (da_cons (de_var 1 (by rfl) (by first | exact Or.inl rfl | exact Or.inr (Or.inl rfl) | exact Or.inr (Or.inr rfl)) (by decide) (by decide)) (da_cons de_int da_nil (by rfl)) (by rfl)) (by rfl) (by decide) (by rfl) (by rfl)) (fun _ _ => (by rfl))) da_nil (by rfl)) (by decide))) (de_slice sl_all os_slice (de_var 0 (by rfl) (by first | exact Or.inl rfl | exact Or.inr (Or.inl rfl) | exact Or.inr (Or.inr rfl)) (by decide) (by decide)) (do_some (de_bin op_addAll ov_add (de_var 2 (by rfl) (by first | exact Or.inl rfl | exact Or.inr (Or.inl rfl) | exact Or.inr (Or.inr rfl)) (by decide) (by decide)) de_int)) do_none)))
  dss_nil) dss_nil)
  (dss_cons (ds_set sc_law_odd_floor_k01.nd (by rfl) (by first | exact Or.inl rfl | exact Or.inr rfl) ((fe_lst (da_cons (de_bin op_addAll ov_add (de_slice sl_all os_slice (de_var 0 (by rfl) (by first | exact Or.inl rfl | exact Or.inr (Or.inl rfl) | exact Or.inr (Or.inr rfl)) (by decide) (by decide)) do_none (do_some (de_var 2 (by rfl) (by first | exact Or.inl rfl | exact Or.inr (Or.inl rfl) | exact Or.inr (Or.inr rfl)) (by decide) (by decide)))) (de_slice sl_all os_slice (de_var 0 (by rfl) (by first | exact Or.inl rfl | exact Or.inr (Or.inl rfl) | exact Or.inr (Or.inr rfl)) (by decide) (by decide)) (do_some (de_bin op_addAll ov_add (de_var 2 (by rfl) (by first | exact Or.inl rfl | exact Or.inr (Or.inl rfl) | exact Or.inr (Or.inr rfl)) (by decide) (by decide)) de_int)) do_none)) (da_cons (de_bin op_addAll ov_add (de_bin op_addAll ov_add (de_slice sl_all os_slice (de_var 0 (by rfl) (by first | exact Or.inl rfl | exact Or.inr (Or.inl rfl) | exact Or.inr (Or.inr rfl)) (by decide) (by decide)) do_none (do_some (de_var 2 (by rfl) (by first | exact Or.inl rfl | exact Or.inr (Or.inl rfl) | exact Or.inr (Or.inr rfl)) (by decide) (by decide)))) (de_slice sl_all os_slice (de_var 0 (by rfl) (by first | exact Or.inl rfl | exact Or.inr (Or.inl rfl) | exact Or.inr (Or.inr rfl)) (by decide) (by decide)) (do_some (de_var 2 (by rfl) (by first | exact Or.inl rfl | exact Or.inr (Or.inl rfl) | exact Or.inr (Or.inr rfl)) (by decide) (by decide))) (do_some (de_bin op_addAll ov_add (de_var 2 (by rfl) (by first | exact Or.inl rfl | exact Or.inr (Or.inl rfl) | exact Or.inr (Or.inr rfl)) (by decide) (by decide)) de_int)))) (de_slice sl_all os_slice (de_var 0 (by rfl) (by first | exact Or.inl rfl | exact Or.inr (Or.inl rfl) | exact Or.inr (Or.inr rfl)) (by decide) (by decide)) (do_some (de_var 2 (by rfl) (by first | exact Or.inl rfl | exact Or.inr (Or.inl rfl) | exact Or.inr (Or.inr rfl)) (by decide) (by decide))) do_none)) (da_cons ((fe_callTy (call_listQ (by rfl)) of_listQ listQ_lst (by rfl) T.z_list (by decide +kernel) (da_cons (de_var 0 (by rfl) (by first | exact Or.inl rfl | exact Or.inr (Or.inl rfl) | exact Or.inr (Or.inr rfl)) (by decide) (by decide)) da_nil (by rfl)) (by decide) (by decide) (by rfl) (by rfl))).de da_nil (by rfl)) (by rfl)) (by rfl)) (by decide))).de (by rfl) (Or.inl rfl))
  (dss_cons (ds_set sc_law_odd_floor_k01.nd (by rfl) (by first | exact Or.inl rfl | exact Or.inr rfl) (de_bin op_addAll ov_add (de_var 8 (by rfl) (by first | exact Or.inl rfl | exact Or.inr (Or.inl rfl) | exact Or.inr (Or.inr rfl)) (by decide) (by decide)) ((fe_lst (da_cons (de_meth (by decide) PySem.F.plainAttrs_str PySem.F.slot_str_join PySem.F.type_str_join mt_join ov_join (de_str (by decide +kernel) (okS_of (by decide +kernel))) (da_cons (de_var 0 (by rfl) (by first | exact Or.inl rfl | exact Or.inr (Or.inl rfl) | exact Or.inr (Or.inr rfl)) (by decide) (by decide)) da_nil (by rfl)) (by rfl) (by rfl) (by rfl) (by rfl) (by rfl)) (da_cons (de_ix ix_seq ov_ix (de_var 0 (by rfl) (by first | exact Or.inl rfl | exact Or.inr (Or.inl rfl) | exact Or.inr (Or.inr rfl)) (by decide) (by decide)) de_int (fun _ _ => (by rfl))) (da_cons de_non (da_cons (de_tup da_nil (by decide)) (da_cons (de_tup (da_cons (de_str (by decide +kernel) (okS_of (by decide +kernel))) da_nil (by rfl)) (by decide)) (da_cons (de_tup (da_cons (de_var 0 (by rfl) (by first | exact Or.inl rfl | exact Or.inr (Or.inl rfl) | exact Or.inr (Or.inr rfl)) (by decide) (by decide)) da_nil (by rfl)) (by decide)) (da_cons (de_bin op_mulAll ov_mul (de_slice sl_all os_slice (de_var 0 (by rfl) (by first | exact Or.inl rfl | exact Or.inr (Or.inl rfl) | exact Or.inr (Or.inr rfl)) (by decide) (by decide)) do_none (do_some de_int)) de_int) (da_cons (de_bin op_mulAll ov_mul (de_slice sl_all os_slice (de_var 0 (by rfl) (by first | exact Or.inl rfl | exact Or.inr (Or.inl rfl) | exact Or.inr (Or.inr rfl)) (by decide) (by decide)) do_none (do_some de_int)) de_int) da_nil (by rfl)) (by rfl)) (by rfl)) (by rfl)) (by rfl)) (by rfl)) (by rfl)) (by rfl)) (by decide))).de) (by rfl) (Or.inl rfl))
  (dss_cons (ds_set sc_law_odd_floor_k01.nd (by rfl) (by first | exact Or.inl rfl | exact Or.inr rfl) (de_bin op_addAll ov_add (de_var 8 (by rfl) (by first | exact Or.inl rfl | exact Or.inr (Or.inl rfl) | exact Or.inr (Or.inr rfl)) (by decide) (by decide)) ((fe_lst (da_cons (de_tup (da_cons (de_bin op_mulAll ov_mul (de_str (by decide +kernel) (okS_of (by decide +kernel))) de_int) da_nil (by rfl)) (by decide)) (da_cons (de_tup (da_cons (de_bin op_mulAll ov_mul (de_str (by decide +kernel) (okS_of (by decide +kernel))) de_int) da_nil (by rfl)) (by decide)) (da_cons (fe_dnew).de (da_cons de_int da_nil (by rfl)) (by rfl)) (by rfl)) (by rfl)) (by decide))).de) (by rfl) (Or.inl rfl))
  (dss_cons (ds_ret (de_ix ix_seq ov_ix (de_var 8 (by rfl) (by first | exact Or.inl rfl | exact Or.inr (Or.inl rfl) | exact Or.inr (Or.inr rfl)) (by decide) (by decide)) (de_call C.c_law_draw hr (by rfl) T.g_law_draw T.f_law_draw.kp T.b_law_draw (takes_of rfl rfl rfl rfl) (da_cons (de_var 1 (by rfl) (by first | exact Or.inl rfl | exact Or.inr (Or.inl rfl) | exact Or.inr (Or.inr rfl)) (by decide) (by decide)) (da_cons de_int da_nil (by rfl)) (by rfl)) (by rfl) (by decide) (by rfl) (by rfl)) (fun _ _ => (by rfl))))
  dss_nil)))))))))))
theorem ok_law_right_k01 (T : Tx K mg ad fds tks) (C : Ok Pg wd K mg base ad fds k) : FnOk Pg wd K mg base (L2.CX Pg wd) (k + 1) (ad 9) (fds 9) ["thing"] (spD K cl 1 (run prog (k + 1) 306)) := by
  refine fn_okD (rn := run prog k) (nv := 1) (body := ir_law_right_k01.body) T.f_law_right_k01 sc_law_right_k01 rfl rfl fun cdv A outer s H E hr => ?_
  exact (dss_cons (ds_set sc_law_right_k01.nd (by rfl) (by first | exact Or.inl rfl | exact Or.inr rfl) (de_call C.c_floor_good hr (by rfl) T.g_floor_good T.f_floor_good.kp T.b_floor_good (takes_of rfl rfl rfl rfl) (da_cons (de_var 0 (by rfl) (by first | exact Or.inl rfl | exact Or.inr (Or.inl rfl) | exact Or.inr (Or.inr rfl)) (by decide) (by decide)) da_nil (by rfl)) (by rfl) (by decide) (by rfl) (by rfl)) (by rfl) (Or.inl rfl))
  (dss_cons (ds_ret (de_and (de_isi (T := "bool") (.inl rfl) (by rfl) (by rfl) T.z_isinstance (by rfl) T.z_bool (by decide +kernel) (by decide) (by decide) (de_var 1 (by rfl) (by first | exact Or.inl rfl | exact Or.inr (Or.inl rfl) | exact Or.inr (Or.inr rfl)) (by decide) (by decide)) (by rfl) (by rfl) (by rfl)) (de_and (de_cmp (op_eqD hr.units) ov_eq (de_var 1 (by rfl) (by first | exact Or.inl rfl | exact Or.inr (Or.inl rfl) | exact Or.inr (Or.inr rfl)) (by decide) (by decide)) (de_call C.c_law_floor_good_k01 hr (by rfl) T.g_law_floor_good_k01 T.f_law_floor_good_k01.kp T.b_law_floor_good_k01 (takes_of rfl rfl rfl rfl) (da_cons (de_var 0 (by rfl) (by first | exact Or.inl rfl | exact Or.inr (Or.inl rfl) | exact Or.inr (Or.inr rfl)) (by decide) (by decide)) da_nil (by rfl)) (by rfl) (by decide) (by rfl) (by rfl)) (nomark _)) (de_one (de_cmp (op_eqD hr.units) ov_eq (de_call C.c_floor_good hr (by rfl) T.g_floor_good T.f_floor_good.kp T.b_floor_good (takes_of rfl rfl rfl rfl) (da_cons (de_var 0 (by rfl) (by first | exact Or.inl rfl | exact Or.inr (Or.inl rfl) | exact Or.inr (Or.inr rfl)) (by decide) (by decide)) da_nil (by rfl)) (by rfl) (by decide) (by rfl) (by rfl)) (de_var 1 (by rfl) (by first | exact Or.inl rfl | exact Or.inr (Or.inl rfl) | exact Or.inr (Or.inr rfl)) (by decide) (by decide)) (nomark _))))))
  dss_nil))
theorem ok_law_k01 (T : Tx K mg ad fds tks) (C : Ok Pg wd K mg base ad fds k) : FnOk Pg wd K mg base (L2.CX Pg wd) (k + 1) (ad 10) (fds 10) ["script"] (spD K cl 1 (run prog (k + 1) 163)) := by
  refine fn_okD (rn := run prog k) (nv := 5) (body := ir_law_k01.body) T.f_law_k01 sc_law_k01 rfl rfl fun cdv A outer s H E hr => ?_
  exact (dss_cons (ds_for (passes_of rfl) (by rfl) (di_any ((fe_lst (da_cons (de_tup (da_cons (de_str (by decide +kernel) (okS_of (by decide +kernel))) da_nil (by rfl)) (by decide)) (da_cons (de_tup (da_cons (de_str (by decide +kernel) (okS_of (by decide +kernel))) da_nil (by rfl)) (by decide)) (da_cons (de_tup da_nil (by decide)) (da_cons (de_str (by decide +kernel) (okS_of (by decide +kernel))) (da_cons ((fe_lst (da_cons (de_str (by decide +kernel) (okS_of (by decide +kernel))) da_nil (by rfl)) (by decide))).de (da_cons (de_tup (da_cons (de_str (by decide +kernel) (okS_of (by decide +kernel))) (da_cons (de_str (by decide +kernel) (okS_of (by decide +kernel))) da_nil (by rfl)) (by rfl)) (by decide)) (da_cons (de_tup (da_cons (de_str (by decide +kernel) (okS_of (by decide +kernel))) da_nil (by rfl)) (by decide)) (da_cons (de_bin op_mulAll ov_mul (de_tup (da_cons (de_bin op_mulAll ov_mul (de_str (by decide +kernel) (okS_of (by decide +kernel))) de_int) da_nil (by rfl)) (by decide)) de_int) (da_cons (de_tup (da_cons (de_bin op_mulAll ov_mul (de_str (by decide +kernel) (okS_of (by decide +kernel))) de_int) da_nil (by rfl)) (by decide)) da_nil (by rfl)) (by rfl)) (by rfl)) (by rfl)) (by rfl)) (by rfl)) (by rfl)) (by rfl)) (by rfl)) (by decide))).de) (dg_name sc_law_k01.nd (by rfl) (by first | exact Or.inl rfl | exact Or.inr rfl) (by first | exact Or.inl rfl | exact Or.inr rfl)) (dss_cons (ds_if (dt_not (dt_val (de_call C.c_law_right_k01 hr (by rfl) T.g_law_right_k01 T.f_law_right_k01.kp T.b_law_right_k01 (takes_of rfl rfl rfl rfl) (da_cons (de_var 1 (by rfl) (by first | exact Or.inl rfl | exact Or.inr (Or.inl rfl) | exact Or.inr (Or.inr rfl)) (by decide) (by decide)) da_nil (by rfl)) (by rfl) (by decide) (by rfl) (by rfl)) (fun _ => (by rfl)))) (dss_cons (ds_ret de_bl)
  dss_nil) dss_nil)
  dss_nil) (fun _ => (by rfl)))
  (dss_cons (ds_for (passes_of rfl) (by rfl) (di_any (de_bin op_addAll ov_add ((fe_lst (da_cons (de_call C.c_law_cell_at hr (by rfl) T.g_law_cell_at T.f_law_cell_at.kp T.b_law_cell_at (takes_of rfl rfl rfl rfl) (da_cons (de_var 0 (by rfl) (by first | exact Or.inl rfl | exact Or.inr (Or.inl rfl) | exact Or.inr (Or.inr rfl)) (by decide) (by decide)) (da_cons de_int da_nil (by rfl)) (by rfl)) (by rfl) (by decide) (by rfl) (by rfl)) da_nil (by rfl)) (by decide))).de (de_slice sl_all os_slice (de_var 0 (by rfl) (by first | exact Or.inl rfl | exact Or.inr (Or.inl rfl) | exact Or.inr (Or.inr rfl)) (by decide) (by decide)) (do_some de_int) (do_some de_int)))) (dg_name sc_law_k01.nd (by rfl) (by first | exact Or.inl rfl | exact Or.inr rfl) (by first | exact Or.inl rfl | exact Or.inr rfl)) (dss_cons (ds_set sc_law_k01.nd (by rfl) (by first | exact Or.inl rfl | exact Or.inr rfl) (de_call C.c_law_pen_of hr (by rfl) T.g_law_pen_of T.f_law_pen_of.kp T.b_law_pen_of (takes_of rfl rfl rfl rfl) (da_cons (de_var 2 (by rfl) (by first | exact Or.inl rfl | exact Or.inr (Or.inl rfl) | exact Or.inr (Or.inr rfl)) (by decide) (by decide)) da_nil (by rfl)) (by rfl) (by decide) (by rfl) (by rfl)) (by rfl) (Or.inl rfl))
  (dss_cons (ds_set sc_law_k01.nd (by rfl) (by first | exact Or.inl rfl | exact Or.inr rfl) (de_call C.c_law_floor_by hr (by rfl) T.g_law_floor_by T.f_law_floor_by.kp T.b_law_floor_by (takes_of rfl rfl rfl rfl) (da_cons (de_var 3 (by rfl) (by first | exact Or.inl rfl | exact Or.inr (Or.inl rfl) | exact Or.inr (Or.inr rfl)) (by decide) (by decide)) (da_cons (de_str (by decide +kernel) (okS_of (by decide +kernel))) (da_cons (de_ix ix_seq ov_ix ((fe_lst (da_cons de_int (da_cons de_int (da_cons de_int da_nil (by rfl)) (by rfl)) (by rfl)) (by decide))).de (de_call C.c_law_draw hr (by rfl) T.g_law_draw T.f_law_draw.kp T.b_law_draw (takes_of rfl rfl rfl rfl) (da_cons (de_var 3 (by rfl) (by first | exact Or.inl rfl | exact Or.inr (Or.inl rfl) | exact Or.inr (Or.inr rfl)) (by decide) (by decide)) (da_cons de_int da_nil (by rfl)) (by rfl)) (by rfl) (by decide) (by rfl) (by rfl)) (fun _ _ => (by rfl))) da_nil (by rfl)) (by rfl)) (by rfl)) (by rfl) (by decide) (by rfl) (by rfl)) (by rfl) (Or.inl rfl))
  (dss_cons (ds_if (dt_not (dt_val (de_call C.c_law_right_k01 hr (by rfl) T.g_law_right_k01 T.f_law_right_k01.kp T.b_law_right_k01 (takes_of rfl rfl rfl rfl) (da_cons (de_var 4 (by rfl) (by first | exact Or.inl rfl | exact Or.inr (Or.inl rfl) | exact Or.inr (Or.inr rfl)) (by decide) (by decide)) da_nil (by rfl)) (by rfl) (by decide) (by rfl) (by rfl)) (fun _ => (by rfl)))) (dss_cons (ds_ret de_bl)
  dss_nil) dss_nil)
  (dss_cons (ds_for (passes_of rfl) (by rfl) (di_range1 (by rfl) T.z_range (da_cons de_int da_nil (by rfl)) (by rfl)) (dg_name sc_law_k01.nd (by rfl) (by first | exact Or.inl rfl | exact Or.inr rfl) (by first | exact Or.inl rfl | exact Or.inr rfl)) (dss_cons (ds_if (dt_not (dt_val (de_call C.c_law_right_k01 hr (by rfl) T.g_law_right_k01 T.f_law_right_k01.kp T.b_law_right_k01 (takes_of rfl rfl rfl rfl) (da_cons (de_call C.c_law_odd_floor_k01 hr (by rfl) T.g_law_odd_floor_k01 T.f_law_odd_floor_k01.kp T.b_law_odd_floor_k01 (takes_of rfl rfl rfl rfl) (da_cons (de_var 4 (by rfl) (by first | exact Or.inl rfl | exact Or.inr (Or.inl rfl) | exact Or.inr (Or.inr rfl)) (by decide) (by decide)) (da_cons (de_var 3 (by rfl) (by first | exact Or.inl rfl | exact Or.inr (Or.inl rfl) | exact Or.inr (Or.inr rfl)) (by decide) (by decide)) da_nil (by rfl)) (by rfl)) (by rfl) (by decide) (by rfl) (by rfl)) da_nil (by rfl)) (by rfl) (by decide) (by rfl) (by rfl)) (fun _ => (by rfl)))) (dss_cons (ds_ret de_bl)
  dss_nil) dss_nil)
  dss_nil) (fun _ => (by rfl)))
  dss_nil)))) (fun _ => (by rfl)))
  (dss_cons (ds_ret de_bl)
  dss_nil)))
theorem all_ok (T : Tx K mg ad fds tks) : ∀ k, Ok Pg wd K mg base ad fds k
  | 0 => by
    have z : ∀ {f : Addr} {fd : FuncData} {ps : List Str} {n i : Nat}, ps.length = n → FnOk Pg wd K mg base (L2.CX Pg wd) 0 f fd ps (spD K cl n (run prog 0 i)) := fun {f fd ps n i} hl => ⟨fun vs H Q E q => by
      obtain ⟨m, B, S, ds, hS, rd, hd, q⟩ := q
      exact q.elim, fun A outer s H args us vs Q E hr e0 hb hv q => by
      obtain ⟨m, B, S, ds, hS, rd, hd, q⟩ := q
      exact q.elim⟩
    exact ⟨z rfl, z rfl, z rfl, z rfl, z rfl, z rfl, z rfl, z rfl, z rfl, z rfl, z rfl⟩
  | k + 1 => by
    have C := all_ok T k
    exact ⟨ok_row_good T C, ok_floor_good T C, ok_law_cell_at T C, ok_law_next T C, ok_law_pen_of T C, ok_law_draw T C, ok_law_floor_by T C, ok_law_floor_good_k01 T C, ok_law_odd_floor_k01 T C, ok_law_right_k01 T C, ok_law_k01 T C⟩
end
set_option maxHeartbeats 8000000 in
theorem all_mk {l : PySem.W.OpenLaw} {w : World} {K : PySem.W.Frag} {h : Heap} {mg : Str → Option Value} {fa : Addr} (X : K.In h) (G : h.Ns mainGlobals mg) (hfa : mg "law" = some (.ref fa))
    {f0 : Addr} {od0 an0 : Option Addr} {sl0 : Array (Option Value)} {oc0 kV0 dc0 pm0 cd0 ct0 : Value} (a0 : PySem.W.nsIn K mainGlobals "row_good" = some (some (.ref f0))) (l0 : K.lookup f0 = some ⟨oc0, od0, .func (PySem.W.fnOf "row_good" "row_good" (defArgs s_row_good) (defBody s_row_good) (defScope s_row_good) .none kV0 dc0 pm0 an0 cd0 ct0), sl0⟩) (c0 : PySem.W.codeIn K cd0 "row_good" = true) (k0 : PySem.W.keepIn K (.ref f0) = true)
    {f1 : Addr} {od1 an1 : Option Addr} {sl1 : Array (Option Value)} {oc1 kV1 dc1 pm1 cd1 ct1 : Value} (a1 : PySem.W.nsIn K mainGlobals "floor_good" = some (some (.ref f1))) (l1 : K.lookup f1 = some ⟨oc1, od1, .func (PySem.W.fnOf "floor_good" "floor_good" (defArgs s_floor_good) (defBody s_floor_good) (defScope s_floor_good) .none kV1 dc1 pm1 an1 cd1 ct1), sl1⟩) (c1 : PySem.W.codeIn K cd1 "floor_good" = true) (k1 : PySem.W.keepIn K (.ref f1) = true)
    {f2 : Addr} {od2 an2 : Option Addr} {sl2 : Array (Option Value)} {oc2 kV2 dc2 pm2 cd2 ct2 : Value} (a2 : PySem.W.nsIn K mainGlobals "_law_cell_at" = some (some (.ref f2))) (l2 : K.lookup f2 = some ⟨oc2, od2, .func (PySem.W.fnOf "_law_cell_at" "_law_cell_at" (defArgs s_law_cell_at) (defBody s_law_cell_at) (defScope s_law_cell_at) .none kV2 dc2 pm2 an2 cd2 ct2), sl2⟩) (c2 : PySem.W.codeIn K cd2 "_law_cell_at" = true) (k2 : PySem.W.keepIn K (.ref f2) = true)
    {f3 : Addr} {od3 an3 : Option Addr} {sl3 : Array (Option Value)} {oc3 kV3 dc3 pm3 cd3 ct3 : Value} (a3 : PySem.W.nsIn K mainGlobals "_law_next" = some (some (.ref f3))) (l3 : K.lookup f3 = some ⟨oc3, od3, .func (PySem.W.fnOf "_law_next" "_law_next" (defArgs s_law_next) (defBody s_law_next) (defScope s_law_next) .none kV3 dc3 pm3 an3 cd3 ct3), sl3⟩) (c3 : PySem.W.codeIn K cd3 "_law_next" = true) (k3 : PySem.W.keepIn K (.ref f3) = true)
    {f4 : Addr} {od4 an4 : Option Addr} {sl4 : Array (Option Value)} {oc4 kV4 dc4 pm4 cd4 ct4 : Value} (a4 : PySem.W.nsIn K mainGlobals "_law_pen_of" = some (some (.ref f4))) (l4 : K.lookup f4 = some ⟨oc4, od4, .func (PySem.W.fnOf "_law_pen_of" "_law_pen_of" (defArgs s_law_pen_of) (defBody s_law_pen_of) (defScope s_law_pen_of) .none kV4 dc4 pm4 an4 cd4 ct4), sl4⟩) (c4 : PySem.W.codeIn K cd4 "_law_pen_of" = true) (k4 : PySem.W.keepIn K (.ref f4) = true)
    {f5 : Addr} {od5 an5 : Option Addr} {sl5 : Array (Option Value)} {oc5 kV5 dc5 pm5 cd5 ct5 : Value} (a5 : PySem.W.nsIn K mainGlobals "_law_draw" = some (some (.ref f5))) (l5 : K.lookup f5 = some ⟨oc5, od5, .func (PySem.W.fnOf "_law_draw" "_law_draw" (defArgs s_law_draw) (defBody s_law_draw) (defScope s_law_draw) .none kV5 dc5 pm5 an5 cd5 ct5), sl5⟩) (c5 : PySem.W.codeIn K cd5 "_law_draw" = true) (k5 : PySem.W.keepIn K (.ref f5) = true)
    {f6 : Addr} {od6 an6 : Option Addr} {sl6 : Array (Option Value)} {oc6 kV6 dc6 pm6 cd6 ct6 : Value} (a6 : PySem.W.nsIn K mainGlobals "_law_floor_by" = some (some (.ref f6))) (l6 : K.lookup f6 = some ⟨oc6, od6, .func (PySem.W.fnOf "_law_floor_by" "_law_floor_by" (defArgs s_law_floor_by) (defBody s_law_floor_by) (defScope s_law_floor_by) .none kV6 dc6 pm6 an6 cd6 ct6), sl6⟩) (c6 : PySem.W.codeIn K cd6 "_law_floor_by" = true) (k6 : PySem.W.keepIn K (.ref f6) = true)
    {f7 : Addr} {od7 an7 : Option Addr} {sl7 : Array (Option Value)} {oc7 kV7 dc7 pm7 cd7 ct7 : Value} (a7 : PySem.W.nsIn K mainGlobals "_law_floor_good" = some (some (.ref f7))) (l7 : K.lookup f7 = some ⟨oc7, od7, .func (PySem.W.fnOf "_law_floor_good" "_law_floor_good" (defArgs s_law_floor_good_k01) (defBody s_law_floor_good_k01) (defScope s_law_floor_good_k01) .none kV7 dc7 pm7 an7 cd7 ct7), sl7⟩) (c7 : PySem.W.codeIn K cd7 "_law_floor_good" = true) (k7 : PySem.W.keepIn K (.ref f7) = true)
    {f8 : Addr} {od8 an8 : Option Addr} {sl8 : Array (Option Value)} {oc8 kV8 dc8 pm8 cd8 ct8 : Value} (a8 : PySem.W.nsIn K mainGlobals "_law_odd_floor" = some (some (.ref f8))) (l8 : K.lookup f8 = some ⟨oc8, od8, .func (PySem.W.fnOf "_law_odd_floor" "_law_odd_floor" (defArgs s_law_odd_floor_k01) (defBody s_law_odd_floor_k01) (defScope s_law_odd_floor_k01) .none kV8 dc8 pm8 an8 cd8 ct8), sl8⟩) (c8 : PySem.W.codeIn K cd8 "_law_odd_floor" = true) (k8 : PySem.W.keepIn K (.ref f8) = true)
    {f9 : Addr} {od9 an9 : Option Addr} {sl9 : Array (Option Value)} {oc9 kV9 dc9 pm9 cd9 ct9 : Value} (a9 : PySem.W.nsIn K mainGlobals "_law_right" = some (some (.ref f9))) (l9 : K.lookup f9 = some ⟨oc9, od9, .func (PySem.W.fnOf "_law_right" "_law_right" (defArgs s_law_right_k01) (defBody s_law_right_k01) (defScope s_law_right_k01) .none kV9 dc9 pm9 an9 cd9 ct9), sl9⟩) (c9 : PySem.W.codeIn K cd9 "_law_right" = true) (k9 : PySem.W.keepIn K (.ref f9) = true)
    {f10 : Addr} {od10 an10 : Option Addr} {sl10 : Array (Option Value)} {oc10 kV10 dc10 pm10 cd10 ct10 : Value} (a10 : PySem.W.nsIn K mainGlobals "law" = some (some (.ref f10))) (l10 : K.lookup f10 = some ⟨oc10, od10, .func (PySem.W.fnOf "law" "law" (defArgs s_law_k01) (defBody s_law_k01) (defScope s_law_k01) .none kV10 dc10 pm10 an10 cd10 ct10), sl10⟩) (c10 : PySem.W.codeIn K cd10 "law" = true) (k10 : PySem.W.keepIn K (.ref f10) = true)
    (z_all : PySem.W.nsIn K mainGlobals "all" = some none)
    (z_bool : PySem.W.nsIn K mainGlobals "bool" = some none)
    (z_int : PySem.W.nsIn K mainGlobals "int" = some none)
    (z_isinstance : PySem.W.nsIn K mainGlobals "isinstance" = some none)
    (z_len : PySem.W.nsIn K mainGlobals "len" = some none)
    (z_list : PySem.W.nsIn K mainGlobals "list" = some none)
    (z_max : PySem.W.nsIn K mainGlobals "max" = some none)
    (z_range : PySem.W.nsIn K mainGlobals "range" = some none)
    (z_str : PySem.W.nsIn K mainGlobals "str" = some none)
    (z_tuple : PySem.W.nsIn K mainGlobals "tuple" = some none)
    {t0 : Tok} (x0 : PySem.W.nsIn K mainGlobals "LETTERS" = some (some (.str "abcdefghijklmnopqrstuvwxyz" t0)))
    {t1 : Tok} (x1 : PySem.W.nsIn K mainGlobals "MOST_SIZE" = some (some (.int 64 t1)))
    : ∃ fd : FuncData, (∀ (s : Shared) (v : Value), BindsTo s fd ⟨[v], []⟩ [("script", v)]) ∧ ∀ base : Heap, K.In base → base.Ns mainGlobals mg → FnOk l.prog w K mg base (L2.CX l.prog w) 40 fa fd ["script"] (spD K cl 1 (run prog 40 163)) := by
  have e := hfa.symm.trans (PySem.W.mg_of X G a10)
  cases e
  have F0 := fun_mk (st := s_row_good) l0 c0 k0
  have b0 := F0.binds (ps := ["thing", "size"]) fun _ _ _ _ _ _ us hl => match us, hl with | [_, _], _ => rfl
  have F1 := fun_mk (st := s_floor_good) l1 c1 k1
  have b1 := F1.binds (ps := ["thing"]) fun _ _ _ _ _ _ us hl => match us, hl with | [_], _ => rfl
  have F2 := fun_mk (st := s_law_cell_at) l2 c2 k2
  have b2 := F2.binds (ps := ["script", "k"]) fun _ _ _ _ _ _ us hl => match us, hl with | [_, _], _ => rfl
  have F3 := fun_mk (st := s_law_next) l3 c3 k3
  have b3 := F3.binds (ps := ["seed"]) fun _ _ _ _ _ _ us hl => match us, hl with | [_], _ => rfl
  have F4 := fun_mk (st := s_law_pen_of) l4 c4 k4
  have b4 := F4.binds (ps := ["cell"]) fun _ _ _ _ _ _ us hl => match us, hl with | [_], _ => rfl
  have F5 := fun_mk (st := s_law_draw) l5 c5 k5
  have b5 := F5.binds (ps := ["pen", "many"]) fun _ _ _ _ _ _ us hl => match us, hl with | [_, _], _ => rfl
  have F6 := fun_mk (st := s_law_floor_by) l6 c6 k6
  have b6 := F6.binds (ps := ["pen", "tiles", "most"]) fun _ _ _ _ _ _ us hl => match us, hl with | [_, _, _], _ => rfl
  have F7 := fun_mk (st := s_law_floor_good_k01) l7 c7 k7
  have b7 := F7.binds (ps := ["thing"]) fun _ _ _ _ _ _ us hl => match us, hl with | [_], _ => rfl
  have F8 := fun_mk (st := s_law_odd_floor_k01) l8 c8 k8
  have b8 := F8.binds (ps := ["floor", "pen"]) fun _ _ _ _ _ _ us hl => match us, hl with | [_, _], _ => rfl
  have F9 := fun_mk (st := s_law_right_k01) l9 c9 k9
  have b9 := F9.binds (ps := ["thing"]) fun _ _ _ _ _ _ us hl => match us, hl with | [_], _ => rfl
  have F10 := fun_mk (st := s_law_k01) l10 c10 k10
  have b10 := F10.binds (ps := ["script"]) fun _ _ _ _ _ _ us hl => match us, hl with | [_], _ => rfl
  have T : Tx K mg (fun i => [f0, f1, f2, f3, f4, f5, f6, f7, f8, f9, fa].getD i 0) (fun i => [PySem.W.fnOf "row_good" "row_good" (defArgs s_row_good) (defBody s_row_good) (defScope s_row_good) .none kV0 dc0 pm0 an0 cd0 ct0, PySem.W.fnOf "floor_good" "floor_good" (defArgs s_floor_good) (defBody s_floor_good) (defScope s_floor_good) .none kV1 dc1 pm1 an1 cd1 ct1, PySem.W.fnOf "_law_cell_at" "_law_cell_at" (defArgs s_law_cell_at) (defBody s_law_cell_at) (defScope s_law_cell_at) .none kV2 dc2 pm2 an2 cd2 ct2, PySem.W.fnOf "_law_next" "_law_next" (defArgs s_law_next) (defBody s_law_next) (defScope s_law_next) .none kV3 dc3 pm3 an3 cd3 ct3, PySem.W.fnOf "_law_pen_of" "_law_pen_of" (defArgs s_law_pen_of) (defBody s_law_pen_of) (defScope s_law_pen_of) .none kV4 dc4 pm4 an4 cd4 ct4, PySem.W.fnOf "_law_draw" "_law_draw" (defArgs s_law_draw) (defBody s_law_draw) (defScope s_law_draw) .none kV5 dc5 pm5 an5 cd5 ct5, PySem.W.fnOf "_law_floor_by" "_law_floor_by" (defArgs s_law_floor_by) (defBody s_law_floor_by) (defScope s_law_floor_by) .none kV6 dc6 pm6 an6 cd6 ct6, PySem.W.fnOf "_law_floor_good" "_law_floor_good" (defArgs s_law_floor_good_k01) (defBody s_law_floor_good_k01) (defScope s_law_floor_good_k01) .none kV7 dc7 pm7 an7 cd7 ct7, PySem.W.fnOf "_law_odd_floor" "_law_odd_floor" (defArgs s_law_odd_floor_k01) (defBody s_law_odd_floor_k01) (defScope s_law_odd_floor_k01) .none kV8 dc8 pm8 an8 cd8 ct8, PySem.W.fnOf "_law_right" "_law_right" (defArgs s_law_right_k01) (defBody s_law_right_k01) (defScope s_law_right_k01) .none kV9 dc9 pm9 an9 cd9 ct9, PySem.W.fnOf "law" "law" (defArgs s_law_k01) (defBody s_law_k01) (defScope s_law_k01) .none kV10 dc10 pm10 an10 cd10 ct10].getD i default) (fun i => [t0, t1].getD i 0) :=
    ⟨F0, PySem.W.mg_of X G a0, b0, F1, PySem.W.mg_of X G a1, b1, F2, PySem.W.mg_of X G a2, b2, F3, PySem.W.mg_of X G a3, b3, F4, PySem.W.mg_of X G a4, b4, F5, PySem.W.mg_of X G a5, b5, F6, PySem.W.mg_of X G a6, b6, F7, PySem.W.mg_of X G a7, b7, F8, PySem.W.mg_of X G a8, b8, F9, PySem.W.mg_of X G a9, b9, F10, PySem.W.mg_of X G a10, b10, PySem.W.mg_none_of X G z_all, PySem.W.mg_none_of X G z_bool, PySem.W.mg_none_of X G z_int, PySem.W.mg_none_of X G z_isinstance, PySem.W.mg_none_of X G z_len, PySem.W.mg_none_of X G z_list, PySem.W.mg_none_of X G z_max, PySem.W.mg_none_of X G z_range, PySem.W.mg_none_of X G z_str, PySem.W.mg_none_of X G z_tuple, PySem.W.mg_of X G x0, PySem.W.mg_of X G x1⟩
  exact ⟨PySem.W.fnOf "law" "law" (defArgs s_law_k01) (defBody s_law_k01) (defScope s_law_k01) .none kV10 dc10 pm10 an10 cd10 ct10, fun s v => .of_eq rfl, fun base _ _ => (all_ok T 40).c_law_k01⟩
end k01
end DL

namespace DL
def lowL : List Nat := [97, 98, 99, 100, 101, 102, 103, 104, 105, 106, 107, 108, 109, 110, 111, 112, 113, 114, 115, 116, 117, 118, 119, 120, 121, 122]
def rowG : P → Int → Bool
  | .str x, n => decide ((x.length : Int) = n) && x.all fun c => decide (c ∈ lowL)
  | _, _ => false
def nscr : P → Bool
  | .scr _ => false
  | _ => true
def tame : P → Bool
  | .scr _ => false
  | .tup xs => xs.all nscr
  | _ => true
def flG : P → Bool
  | .tup (.str x :: rest) => decide (rest.length + 1 ≤ 64) && (decide (1 ≤ x.length) && decide (x.length ≤ 64)) && (P.str x :: rest).all fun r => rowG r x.length
  | _ => false
section
variable {p : Prog} {k : Nat} (S : Store)
theorem row_good_spec (hc : p 451 = some ir_row_good) {r : P} (hr : nscr r = true) (n : Int) : run p (k + 1) 451 [.p r, .p (.int n)] S = .ok (.p (.bl (rowG r n))) S := by
  rw [run_at hc S rfl]
  cases r with
  | str x =>
    simp only [rowG]
    generalize hL : lowL = L
    simp only [ir_row_good]
    rw [show [97, 98, 99, 100, 101, 102, 103, 104, 105, 106, 107, 108, 109, 110, 111, 112, 113, 114, 115, 116, 117, 118, 119, 120, 121, 122] = L from hL]
    by_cases hn : (x.length : Int) = n
    · simp [opR, isiP, isTyP, lenQ, lenP, eqP, P.shp, P.eqv, hn, itemsR, itemsP]
      rw [compL_mapOn (fun c => P.str [c]) (fun c => .bl (decide (c ∈ L))) (by simp) fun c hc => by
        simp [cpItem_k, wipeD, opR, inSignP]]
      simp only [all_map, R.bind_ok, opR, vals_p, vals_nil0, Option.map_some, Option.bind_some, liftR_some]
      simp
    · simp [opR, isiP, isTyP, lenQ, lenP, eqP, P.shp, P.eqv, hn]
  | scr x => cases hr
  | _ => simp [ir_row_good, opR, isiP, isTyP, rowG]
theorem floor_good_spec (hc : p 46 = some ir_floor_good) (hg : p 451 = some ir_row_good) {x : P} (hx : tame x = true) : run p (k + 2) 46 [.p x] S = .ok (.p (.bl (flG x))) S := by
  rw [run_at hc S rfl]
  cases x with
  | scr x => cases hx
  | tup xs =>
    cases xs with
    | nil => simp [ir_floor_good, opR, isiP, isTyP, lenQ, lenP, ltP, flG]
    | cons r0 rest =>
      have hall : ∀ r ∈ r0 :: rest, nscr r = true := List.all_eq_true.mp hx
      have h1 : ¬ ((rest.length : Int) + 1 < 1) := by omega
      by_cases h64 : rest.length + 1 ≤ 64
      · have h2 : ¬ (64 < (rest.length : Int) + 1) := by omega
        cases r0 with
        | str z =>
          by_cases hz : 1 ≤ z.length ∧ z.length ≤ 64
          · have h3 : ¬ ((z.length : Int) < 1) := by omega
            have h4 : ¬ (64 < (z.length : Int)) := by omega
            simp [ir_floor_good, opR, isiP, isTyP, lenQ, lenP, ltP, gtP, h1, h2, h3, h4, ixP, atP, ixN', itemsR, itemsP]
            rw [show P.str z :: rest = (P.str z :: rest).map (fun r => r) by simp, compL_mapOn (fun r => r) (fun r => .bl (rowG r z.length)) (by simp) fun r hr => by
              simp [cpItem_k, wipeD, opR, ixP, atP, ixN', lenQ, lenP, row_good_spec _ hg (hall r hr)]]
            simp only [all_map, R.bind_ok, opR, vals_p, vals_nil0, Option.map_some, Option.bind_some, liftR_some]
            simp [flG, h64, hz]
          · have h3 : (z.length : Int) < 1 ∨ ¬ ((z.length : Int) < 1) ∧ 64 < (z.length : Int) := by omega
            have h4 : flG (.tup (.str z :: rest)) = false := by
              simp only [flG, h64, Bool.and_eq_false_iff, decide_eq_false_iff_not]
              left
              right
              omega
            rcases h3 with h3 | ⟨h3, h5⟩
            · simp [ir_floor_good, opR, isiP, isTyP, lenQ, lenP, ltP, gtP, h1, h2, h3, h4, ixP, atP, ixN']
            · simp [ir_floor_good, opR, isiP, isTyP, lenQ, lenP, ltP, gtP, h1, h2, h3, h4, h5, ixP, atP, ixN']
        | scr z => have := hall _ List.mem_cons_self; cases this
        | _ => simp [ir_floor_good, opR, isiP, isTyP, lenQ, lenP, ltP, gtP, h1, h2, ixP, atP, ixN', flG]
      · have h2 : 64 < (rest.length : Int) + 1 := by omega
        simp [ir_floor_good, opR, isiP, isTyP, lenQ, lenP, ltP, gtP, h1, h2]
        cases r0 <;> simp [flG, h64]
  | _ => simp [ir_floor_good, opR, isiP, isTyP, flG]
def isStr : P → Bool
  | .str _ => true
  | _ => false
theorem isi_str {r : P} (h : nscr r = true) : isiP "str" [r] = some (.bl (isStr r)) := by
  cases r <;> first | rfl | cases h
theorem all_str : ∀ {xs : List P}, xs.all isStr = true → ∃ zs : List (List Nat), xs = zs.map .str
  | [], _ => ⟨[], rfl⟩
  | x :: r, h => by
    rw [List.all_cons, Bool.and_eq_true] at h
    obtain ⟨zs, rfl⟩ := all_str h.2
    cases x <;> first | exact ⟨_ :: zs, rfl⟩ | (have h1 := h.1; cases h1)
theorem rowG_str {r : P} {n : Int} (h : rowG r n = true) : isStr r = true := by
  cases r <;> first | rfl | cases h
def LgE (xs : P) (e : Env) : Prop := ∃ a b, e = [some (.p xs), a, b]
theorem shps_ones (n : Nat) : ∀ ys : List Nat, P.shps n (ys.map fun c => .str [c]) = true
  | [] => by simp [P.shps]
  | y :: r => by simp [P.shps, P.shp, shps_ones n r]
theorem nir {n : Int} (h : 1 ≤ n ∧ n < 65) : notInRangeP [.int n, .int 1, .int 65] = some (.bl false) := by simp only [notInRangeP, decide_eq_true h, Bool.not_true]
theorem nirN {n : Int} (h : ¬ (1 ≤ n ∧ n < 65)) : notInRangeP [.int n, .int 1, .int 65] = some (.bl true) := by simp only [notInRangeP, decide_eq_false h, Bool.not_false]
theorem flG_str {xs : List P} (h : xs.all isStr = false) : flG (.tup xs) = false := by
  cases hf : flG (.tup xs) with
  | false => rfl
  | true =>
    exfalso
    cases xs with
    | nil => simp [flG] at hf
    | cons r0 rest =>
      cases r0 with
      | str z =>
        simp only [flG, Bool.and_eq_true] at hf
        rw [List.all_eq_true.mpr fun r hr => rowG_str (List.all_eq_true.mp hf.2 r hr)] at h
        cases h
      | _ => simp [flG] at hf
theorem flG_len {xs : List P} (h : ¬ (1 ≤ (xs.length : Int) ∧ (xs.length : Int) < 65)) : flG (.tup xs) = false := by
  cases xs with
  | nil => rfl
  | cons r0 rest =>
    have : ¬ (rest.length + 1 ≤ 64) := by simp at h; omega
    cases r0 <;> simp [flG, this]
theorem law_floor_good_spec (hc : p 143 = some ir_law_floor_good_k01) {x : P} (hx : tame x = true) : run p (k + 1) 143 [.p x] S = .ok (.p (.bl (flG x))) S := by
  rw [run_at hc S rfl]
  cases x with
  | scr x => cases hx
  | tup xs =>
    have hall : ∀ r ∈ xs, nscr r = true := List.all_eq_true.mp hx
    by_cases h2 : 1 ≤ (xs.length : Int) ∧ (xs.length : Int) < 65
    · have c1 : ∀ e, compL (chkD [.p (.tup xs)] [.tup xs]) (cpItem (run p k) [1] (.one 1) (.c (.bl true)) (.op (isiP "str") (.cons (.v 1) .nil)) [some (.p (.tup xs)), none, e]) xs S = .ok (xs.map fun r => .bl (isStr r)) S := fun e =>
        compL_map (by simp) fun r hr => by
          simp [cpItem_k, wipeD, opR, isi_str (hall r hr)]
      cases hs : xs.all isStr with
      | false =>
        simp [ir_law_floor_good_k01, opR, isiP, isTyP, lenQ, lenP, nir h2, itemsR, itemsP, c1, all_map, hs, flG_str hs]
      | true =>
        obtain ⟨zs, rfl⟩ := all_str hs
        cases zs with
        | nil => simp at h2
        | cons z zs =>
          have h0 : ixP [.tup ((z :: zs).map .str), .int 0] = some (.str z) := by simp [ixP, atP, ixN']
          have h64 : zs.length + 1 ≤ 64 := by simp at h2; omega
          by_cases hz : 1 ≤ (z.length : Int) ∧ (z.length : Int) < 65
          · generalize hxs : (z :: zs).map P.str = xs at *
            simp only [ir_law_floor_good_k01]
            generalize hL : [97, 98, 99, 100, 101, 102, 103, 104, 105, 106, 107, 108, 109, 110, 111, 112, 113, 114, 115, 116, 117, 118, 119, 120, 121, 122] = L
            simp [opR, isiP, isTyP, lenQ, lenP, nir h2, itemsR, itemsP, c1, all_map, hs, h0, nir hz]
            generalize hfor : forL _ _ _ _ _ = r
            refine forL_all hfor (fun r => rowG r z.length) (.p (.bl false)) (fun e => ∃ a b, e = [some (.p (.tup xs)), a, b]) (by simp) ⟨_, _, rfl⟩ ?_ ?_
            · rintro r hr e ⟨a, b, rfl⟩
              rw [← hxs] at hr
              obtain ⟨y, _, rfl⟩ := List.mem_map.mp hr
              refine ⟨[some (.p (.tup xs)), some (.p (.str y)), b], ⟨_, _, rfl⟩, ?_⟩
              have hr : rowG (.str y) z.length = (decide ((y.length : Int) = z.length) && y.all fun c => decide (c ∈ L)) := by
                rw [← hL]
                rfl
              rw [hr]
              by_cases hyz : y.length = z.length
              · have c2 : compL (chkD [.p (.str y)] [.str y]) (cpItem (run p k) [2] (.one 2) (.op notInSignP (.cons (.v 2) (.cons (.c (.str L)) .nil))) (.v 2) [some (.p (.tup xs)), some (.p (.str y)), b]) (y.map fun c => .str [c]) S = .ok ((y.filter fun c => !decide (c ∈ L)).map fun c => .str [c]) S :=
                  compL_filterOn (fun c => P.str [c]) (fun c => !decide (c ∈ L)) (by simp) fun c hc => by
                    simp [cpItem_k, wipeD, opR, notInSignP]
                    by_cases hcL : c ∈ L <;> simp [hcL]
                have c3 : ∀ ys : List Nat, neP [.lst (ys.map fun c => .str [c]), .lst []] = some (.bl (!ys.isEmpty)) := fun ys => by
                  have : P.shps 59 (ys.map fun c => .str [c]) = true := shps_ones 59 ys
                  cases ys <;> simp [neP, P.shp, this, P.shps, P.eqv, P.eqvs] at this ⊢
                  exact this
                have c4 : (y.filter fun c => !decide (c ∈ L)).isEmpty = y.all fun c => decide (c ∈ L) := by
                  rw [Bool.eq_iff_iff, List.isEmpty_iff, List.filter_eq_nil_iff, List.all_eq_true]
                  simp
                generalize (y.all fun c => decide (c ∈ L)) = bb at c4 ⊢
                cases bb <;> simp [forItem_k, opR, lenQ, lenP, h0, ne_int, hyz, itemsR, itemsP, c2, pkR, lstP, c3, c4]
              · have hyz2 : ¬ ((y.length : Int) = z.length) := by omega
                simp [forItem_k, opR, lenQ, lenP, h0, neP, P.shp, P.eqv, hyz, hyz2]
            · rintro e' ⟨a, b, rfl⟩ rfl
              have hfl : flG (.tup xs) = xs.all fun r => rowG r z.length := by
                rw [← hxs, List.map_cons]
                simp only [flG]
                rw [decide_eq_true (by simpa using h64), decide_eq_true (by omega), decide_eq_true (by omega)]
                rfl
              rw [hfl]
              cases xs.all fun r => rowG r z.length <;> simp
          · have h5 : flG (.tup ((z :: zs).map .str)) = false := by
              rw [List.map_cons]
              simp only [flG, Bool.and_eq_false_iff, decide_eq_false_iff_not]
              left
              right
              omega
            generalize (z :: zs).map P.str = xs at *
            simp [ir_law_floor_good_k01, opR, isiP, isTyP, lenQ, lenP, nir h2, itemsR, itemsP, c1, all_map, hs, h0, nirN hz, h5]
    · simp [ir_law_floor_good_k01, opR, isiP, isTyP, lenQ, lenP, nirN h2, flG_len h2]
  | _ => simp [ir_law_floor_good_k01, opR, isiP, isTyP, flG]
theorem right_spec (hr : p 306 = some ir_law_right_k01) (h46 : p 46 = some ir_floor_good) (hg : p 451 = some ir_row_good) (h143 : p 143 = some ir_law_floor_good_k01) {x : P} (hx : tame x = true) : run p (k + 3) 306 [.p x] S = .ok (.p (.bl true)) S := by
  have a := floor_good_spec (k := k) S h46 hg hx
  have b := law_floor_good_spec (k := k + 1) S h143 hx
  rw [run_at hr S rfl]
  simp [ir_law_right_k01, a, b, opR, isiP, isTyP, eq_bl]
theorem nscr_str (xs : List (List Nat)) : (xs.map P.str).all nscr = true := by
  rw [List.all_eq_true]
  intro r hr
  obtain ⟨x, _, rfl⟩ := List.mem_map.mp hr
  rfl
theorem all_sub {xs ys : List P} (h : ys.all nscr = true) (hs : ∀ x ∈ xs, x ∈ ys) : xs.all nscr = true := List.all_eq_true.mpr fun x hx => List.all_eq_true.mp h x (hs x hx)
theorem join_fl {rows : List (List Nat)} (h : (rows.map (·.length)).sum ≤ 16777216) : joinP [.str [], .tup (rows.map .str)] = some (.str rows.flatten) := by
  simp only [joinP, strsP_map, joinL_nil, List.length_nil, Nat.mul_zero, Nat.add_zero]
  exact if_pos (show (rows.map (·.length)).sum ≤ line from h)
theorem sum_le {rows : List (List Nat)} {n w : Nat} (h : ∀ r ∈ rows, r.length = w) (hn : rows.length = n) : (rows.map (·.length)).sum = n * w := by
  induction rows generalizing n with
  | nil => subst hn; simp
  | cons r rs ih =>
    subst hn
    rw [List.map_cons, List.sum_cons, ih (fun x hx => h x (List.mem_cons_of_mem _ hx)) rfl, h r List.mem_cons_self, List.length_cons, Nat.succ_mul]
    omega
theorem odd_ex (ho : p 257 = some ir_law_odd_floor_k01) (hd : p 111 = some ir_law_draw) (hn : p 247 = some ir_law_next) {l : Nat} {rows : List (List Nat)} {n w : Nat} (hp : PenAt S l) (fl : rows.length = n ∧ ∀ r ∈ rows, r.length = w) (n1 : 1 ≤ n) (n2 : n ≤ 100) (w1 : 1 ≤ w) (w2 : w ≤ 100) :
    ∃ x o, run p (k + 3) 257 [.p (flP rows), .ref l] S = .ok (.p x) (S.set l o) ∧ IsPen o ∧ tame x = true := by
  rw [run_at ho S rfl]
  obtain ⟨v1, o1, e1, p1, l1, g1⟩ := draw_ex (k := k) S hd hn (m := n) hp (by omega) (by omega)
  obtain ⟨spot, rfl⟩ : ∃ b : Nat, v1 = b := ⟨v1.toNat, by omega⟩
  have hsp : spot < rows.length := by have := fl.1; omega
  obtain ⟨R, hR⟩ : ∃ R, R = rows[spot] := ⟨_, rfl⟩
  have hRw : R.length = w := by rw [hR]; exact fl.2 _ (List.getElem_mem hsp)
  obtain ⟨v2, o2, e2, p2, l2, g2⟩ := draw_ex (k := k) (S.set l o1) hd hn (m := w) (hp.set p1) (by omega) (by omega)
  rw [List.set_set] at e2
  obtain ⟨at', rfl⟩ : ∃ b : Nat, v2 = b := ⟨v2.toNat, by omega⟩
  obtain ⟨v3, o3, e3, p3, l3, g3⟩ := draw_ex (k := k) (S.set l o2) hd hn (m := 7) (hp.set p2) (by omega) (by omega)
  rw [List.set_set] at e3
  obtain ⟨v4, o4, e4, p4, l4, g4⟩ := draw_ex (k := k) (S.set l o3) hd hn (m := 2) (hp.set p3) (by omega) (by omega)
  rw [List.set_set] at e4
  obtain ⟨v5, o5, e5, p5, l5, g5⟩ := draw_ex (k := k) (S.set l o4) hd hn (m := 8) (hp.set p4) (by omega) (by omega)
  rw [List.set_set] at e5
  obtain ⟨v6, o6, e6, p6, l6, g6⟩ := draw_ex (k := k) (S.set l o4) hd hn (m := 15) (hp.set p4) (by omega) (by omega)
  rw [List.set_set] at e6
  obtain ⟨sg, hsg, hsl⟩ : ∃ sg : List Nat, ixP [.lst [.str [65], .str [49], .str [32], .str [], .str [45], .str [97, 98], .str [122]], .int v3] = some (.str sg) ∧ sg.length ≤ 2 := by
    obtain rfl | rfl | rfl | rfl | rfl | rfl | rfl : v3 = 0 ∨ v3 = 1 ∨ v3 = 2 ∨ v3 = 3 ∨ v3 = 4 ∨ v3 = 5 ∨ v3 = 6 := by omega
    all_goals exact ⟨_, rfl, by decide⟩
  have hfn := fl.1
  have hF := nscr_str rows
  have hne : rows ≠ [] := by intro h; rw [h] at hfn; simp at hfn; omega
  have ix0 : ixP [.tup (rows.map .str), .int 0] = some (.str (hd0 rows)) := ix_head hne
  have ixs : ixP [.tup (rows.map .str), .int spot] = some (.str R) := by simp [ixP, atP, ixN', hsp, hR]
  have sm : (rows.map (·.length)).sum ≤ 16777216 := by
    rw [sum_le fl.2 hfn]
    have := Nat.mul_le_mul n2 w2
    omega
  have hjoin := join_fl sm
  generalize hFe : rows.map P.str = F at *
  have hFl : F.length = n := by rw [← hFe]; simp [hfn]
  have a1 : addP [.str (R.take at'), .str sg] = some (.str (R.take at' ++ sg)) := add_str (by simp; omega)
  have a2 : addP [.str (R.take at' ++ sg), .str (R.drop (at' + 1))] = some (.str (R.take at' ++ sg ++ R.drop (at' + 1))) := add_str (by simp; omega)
  have a3 : addP [.str R, .str (R.take 1)] = some (.str (R ++ R.take 1)) := add_str (by simp; omega)
  have b1 : ∀ y, addP [.tup (F.take spot), .tup [y]] = some (.tup (F.take spot ++ [y])) := fun y => add_tup (by simp; omega)
  have b2 : ∀ y, addP [.tup (F.take spot ++ [y]), .tup (F.drop (spot + 1))] = some (.tup (F.take spot ++ [y] ++ F.drop (spot + 1))) := fun y => add_tup (by simp; omega)
  have b3 : addP [.tup (F.take spot), .tup (F.drop (spot + 1))] = some (.tup (F.take spot ++ F.drop (spot + 1))) := add_tup (by simp; omega)
  have b4 : addP [.tup (F.take spot), .tup ((F.drop spot).take 1)] = some (.tup (F.take spot ++ (F.drop spot).take 1)) := add_tup (by simp; omega)
  have b5 : addP [.tup (F.take spot ++ (F.drop spot).take 1), .tup (F.drop spot)] = some (.tup (F.take spot ++ (F.drop spot).take 1 ++ F.drop spot)) := add_tup (by simp; omega)
  have sl1 := slice_str0 R at'
  have sl2 := slice_strE1 R at'
  have sl3 : sliceP [.str R, .int 1, .non] = some (.str (R.drop 1)) := slice_strE R 1
  have sl4 : sliceP [.str R, .non, .int 1] = some (.str (R.take 1)) := slice_str0 R 1
  have sl5 := slice_tup0 F spot
  have sl6 := slice_tupE1 F spot
  have sl7 : sliceP [.tup F, .int spot, .int ((spot : Int) + 1)] = some (.tup ((F.drop spot).take 1)) := slice_tup F spot 1
  have sl8 := slice_tupE F spot
  have sl9 : sliceP [.tup F, .non, .int 1] = some (.tup (F.take 1)) := slice_tup0 F 1
  have lq1 : listQ [.str R] = some (.lst (R.map fun c => .str [c])) := rfl
  have lq2 : listQ [.tup F] = some (.lst F) := rfl
  have m1 : mulP [.tup (F.take 1), .int 64] = some (.tup (List.replicate 64 (F.take 1)).flatten) := mul_tup (k := 64) (by intro h; have := congrArg List.length h; rw [List.length_take, List.length_nil] at this; omega) (by omega) (by omega) (by simp; omega)
  have m2 : mulP [.tup (F.take 1), .int 65] = some (.tup (List.replicate 65 (F.take 1)).flatten) := mul_tup (k := 65) (by intro h; have := congrArg List.length h; rw [List.length_take, List.length_nil] at this; omega) (by omega) (by omega) (by simp; omega)
  have m3 : mulP [.str [97], .int 64] = some (.str (List.replicate 64 [97]).flatten) := mul_str (k := 64) (by omega) (by omega) (by decide) (by decide)
  have m4 : mulP [.str [97], .int 65] = some (.str (List.replicate 65 [97]).flatten) := mul_str (k := 65) (by omega) (by omega) (by decide) (by decide)
  obtain ⟨y5, iy5, my5⟩ := ix_lst (xs := [.str (R.take at' ++ sg ++ R.drop (at' + 1)), .str (R.drop 1), .str (R ++ R.take 1), .str [], .lst (R.map fun c => .str [c]), .non, .bl true, .tup [.str R]]) l5 (by simpa using g5)
  have sub1 : ∀ y, nscr y = true → (F.take spot ++ [y] ++ F.drop (spot + 1)).all nscr = true := fun y hy => by
    simp only [List.all_append, List.all_cons, List.all_nil, Bool.and_true, hy]
    rw [all_sub hF fun x hx => List.mem_of_mem_take hx, all_sub hF fun x hx => List.mem_of_mem_drop hx]
    rfl
  by_cases h4 : v4 = 0
  · refine ⟨.tup (F.take spot ++ [y5] ++ F.drop (spot + 1)), o5, ?_, p5, sub1 y5 ?_⟩
    · simp [ir_law_odd_floor_k01, flP, hFe, opR, lenQ, lenP, hFl, e1, ixs, hRw, e2, pkR, lstP, sl1, e3, hsg, a1, sl2, a2, sl3, sl4, a3, lq1, tupP, e4, h4, eq_int, e5, iy5, sl5, b1, sl6, b2, add_int, p5.ok S l, List.take_of_length_le, -List.append_assoc, -List.drop_one]
    · simp at my5
      rcases my5 with rfl | rfl | rfl | rfl | rfl | rfl | rfl | rfl <;> rfl
  · obtain ⟨y6, iy6, my6⟩ := ix_lst (xs := [.tup (F.take spot ++ F.drop (spot + 1)), .tup (F.take spot ++ (F.drop spot).take 1 ++ F.drop spot), .lst F, .str rows.flatten, .str (hd0 rows), .non, .tup [], .tup [.str []], .tup [.tup F], .tup (List.replicate 64 (F.take 1)).flatten, .tup (List.replicate 65 (F.take 1)).flatten, .tup [.str (List.replicate 64 [97]).flatten], .tup [.str (List.replicate 65 [97]).flatten], .dic [] [], .int 7]) l6 (by simpa using g6)
    refine ⟨y6, o6, ?_, p6, ?_⟩
    · have c1 : addP [.lst [.tup (F.take spot ++ F.drop (spot + 1)), .tup (F.take spot ++ (F.drop spot).take 1 ++ F.drop spot), .lst F], .lst [.str rows.flatten, .str (hd0 rows), .non, .tup [], .tup [.str []], .tup [.tup F], .tup (List.replicate 64 (F.take 1)).flatten, .tup (List.replicate 65 (F.take 1)).flatten]] = some (.lst [.tup (F.take spot ++ F.drop (spot + 1)), .tup (F.take spot ++ (F.drop spot).take 1 ++ F.drop spot), .lst F, .str rows.flatten, .str (hd0 rows), .non, .tup [], .tup [.str []], .tup [.tup F], .tup (List.replicate 64 (F.take 1)).flatten, .tup (List.replicate 65 (F.take 1)).flatten]) := add_lst (by simp only [List.length_cons, List.length_nil]; omega)
      have c2 : addP [.lst [.tup (F.take spot ++ F.drop (spot + 1)), .tup (F.take spot ++ (F.drop spot).take 1 ++ F.drop spot), .lst F, .str rows.flatten, .str (hd0 rows), .non, .tup [], .tup [.str []], .tup [.tup F], .tup (List.replicate 64 (F.take 1)).flatten, .tup (List.replicate 65 (F.take 1)).flatten], .lst [.tup [.str (List.replicate 64 [97]).flatten], .tup [.str (List.replicate 65 [97]).flatten], .dic [] [], .int 7]] = some (.lst [.tup (F.take spot ++ F.drop (spot + 1)), .tup (F.take spot ++ (F.drop spot).take 1 ++ F.drop spot), .lst F, .str rows.flatten, .str (hd0 rows), .non, .tup [], .tup [.str []], .tup [.tup F], .tup (List.replicate 64 (F.take 1)).flatten, .tup (List.replicate 65 (F.take 1)).flatten, .tup [.str (List.replicate 64 [97]).flatten], .tup [.str (List.replicate 65 [97]).flatten], .dic [] [], .int 7]) := add_lst (by simp only [List.length_cons, List.length_nil]; omega)
      generalize hq1 : (List.replicate 64 (F.take 1)).flatten = q1 at *
      generalize hq2 : (List.replicate 65 (F.take 1)).flatten = q2 at *
      generalize hq3 : (List.replicate 64 [97]).flatten = q3 at *
      generalize hq4 : (List.replicate 65 [97]).flatten = q4 at *
      generalize rows.flatten = q5 at *
      simp [ir_law_odd_floor_k01, flP, hFe, opR, lenQ, lenP, hFl, e1, ixs, hRw, e2, pkR, lstP, sl1, e3, hsg, a1, sl2, a2, sl3, sl4, a3, lq1, tupP, e4, h4, eq_int, sl5, sl6, b3, b4, b5, add_int, sl7, sl8, sl9, lq2, methR, isTy, hjoin, ix0, m1, m2, m3, m4, dnewP, c1, c2, e6, iy6, p6.ok S l, List.take_of_length_le, -List.append_assoc, -List.drop_one]
    · simp only [List.mem_cons, List.not_mem_nil, or_false] at my6
      have u1 : ∀ xs : List P, (∀ x ∈ xs, x ∈ F) → tame (.tup xs) = true := fun xs h => all_sub hF h
      have u2 : ∀ n, ∀ x ∈ (List.replicate n (F.take 1)).flatten, x ∈ F := fun n x hx => by
        obtain ⟨ys, h1, h2⟩ := List.mem_flatten.mp hx
        rw [List.eq_of_mem_replicate h1] at h2
        exact List.mem_of_mem_take h2
      rcases my6 with rfl | rfl | rfl | rfl | rfl | rfl | rfl | rfl | rfl | rfl | rfl | rfl | rfl | rfl | rfl
      · exact u1 _ fun x hx => by
          rcases List.mem_append.mp hx with h | h
          · exact List.mem_of_mem_take h
          · exact List.mem_of_mem_drop h
      · exact u1 _ fun x hx => by
          rcases List.mem_append.mp hx with h | h
          · rcases List.mem_append.mp h with h | h
            · exact List.mem_of_mem_take h
            · exact List.mem_of_mem_drop (List.mem_of_mem_take h)
          · exact List.mem_of_mem_drop h
      · rfl
      · rfl
      · rfl
      · rfl
      · rfl
      · rfl
      · rfl
      · exact u1 _ (u2 64)
      · exact u1 _ (u2 65)
      · rfl
      · rfl
      · rfl
      · rfl
end
def K1 (ns : List Int) (e : Env) : Prop := ∃ a b c d f, e = [some (.p (.scr (ns.map .int))), a, b, c, d, f]
def K2 (ns : List Int) (l : Nat) (rows : List (List Nat)) (e : Env) (S : Store) : Prop := PenAt S l ∧ ∃ a b c, e = [some (.p (.scr (ns.map .int))), a, b, some (.ref l), some (.p (flP rows)), c]
theorem items1 (ns : List Int) (v : Int) : ∃ is : List Int, addP [.lst [.int v], .lst (((ns.map P.int).drop 1).take 7)] = some (.lst (is.map .int)) := by
  refine ⟨v :: (ns.drop 1).take 7, ?_⟩
  rw [add_lst (by simp; omega)]
  simp
theorem slice1 (ns : List Int) : sliceP [.scr (ns.map .int), .int 1, .int 8] = some (.lst (((ns.map P.int).drop 1).take 7)) := by
  have := slice_lst (ns.map P.int) 1 7
  simp only [sliceP] at this ⊢
  exact this
theorem nums1 {v : Int} (h0 : 0 ≤ v) (h1 : v < 3) : ∃ b : Nat, ixP [.lst [.int 3, .int 8, .int 16], .int v] = some (.int b) ∧ 0 < b ∧ b < 20 := by
  obtain rfl | rfl | rfl : v = 0 ∨ v = 1 ∨ v = 2 := by omega
  · exact ⟨3, rfl, by decide, by decide⟩
  · exact ⟨8, rfl, by decide, by decide⟩
  · exact ⟨16, rfl, by decide, by decide⟩
theorem k01.main (ns : List Int) (h : ns.length ≤ 63) : ∃ S, run k01.prog 40 163 [.p (.scr (ns.map .int))] [] = .ok (.p (.bl true)) S := by
  have hl : k01.prog 163 = some ir_law_k01 := rfl
  have h86 : k01.prog 86 = some ir_law_cell_at := rfl
  have h285 : k01.prog 285 = some ir_law_pen_of := rfl
  have h111 : k01.prog 111 = some ir_law_draw := rfl
  have h247 : k01.prog 247 = some ir_law_next := rfl
  have h142 : k01.prog 142 = some ir_law_floor_by := rfl
  have RR := fun (S : Store) {x : P} (hx : tame x = true) => right_spec (p := k01.prog) (k := 36) S rfl rfl rfl rfl hx
  rw [run_at hl [] rfl]
  have r3 := cell_at_spec (k := 38) [] h86 ns 0
  rw [show (((0 : Nat) : Int)) = 0 from rfl] at r3
  simp only [Nat.reduceAdd] at r3 RR
  generalize ns.getD 0 0 = v0 at r3
  obtain ⟨is, his⟩ := items1 ns v0
  have r4 := slice1 ns
  have hr4 : range1P [.int 4] = some (rangeL 0 4) := by
    rw [range1P, if_pos (by omega)]
    rfl
  have m3 : mulP [.str [97], .int 64] = some (.str (List.replicate 64 [97]).flatten) := mul_str (k := 64) (by omega) (by omega) (by decide) (by decide)
  have m4 : mulP [.str [97], .int 65] = some (.str (List.replicate 65 [97]).flatten) := mul_str (k := 65) (by omega) (by omega) (by decide) (by decide)
  generalize (List.replicate 64 [97]).flatten = q3 at m3
  generalize (List.replicate 65 [97]).flatten = q4 at m4
  have m5 : mulP [.tup [.str q3], .int 64] = some (.tup (List.replicate 64 [.str q3]).flatten) := mul_tup (k := 64) (by simp) (by omega) (by omega) (by simp)
  have t5 : tame (.tup (List.replicate 64 [P.str q3]).flatten) = true := by
    refine List.all_eq_true.mpr fun x hx => ?_
    obtain ⟨ys, h1, h2⟩ := List.mem_flatten.mp hx
    rw [List.eq_of_mem_replicate h1, List.mem_singleton] at h2
    subst h2
    rfl
  generalize (List.replicate 64 [P.str q3]).flatten = q5 at m5 t5
  simp [ir_law_k01, pkR, lstP, tupP, opR, m3, m4, m5, itemsR, itemsP, -List.map_drop, -List.map_take, -List.drop_one, -List.map_tail]
  generalize hfor0 : forL _ _ _ _ _ = r0
  refine forL_elim hfor0 (fun _ e S => S = [] ∧ K1 ns e) (by simp) ⟨rfl, none, none, none, none, none, rfl⟩ ?_ ?_
  · rintro i x hx e S1 ⟨rfl, x1, x2, x3, x4, x5, rfl⟩
    have hx := List.mem_of_getElem? hx
    have ht : tame x = true := by
      simp only [List.mem_cons, List.not_mem_nil, or_false] at hx
      rcases hx with rfl | rfl | rfl | rfl | rfl | rfl | rfl | rfl | rfl <;> first | rfl | exact t5
    simp [forItem_k, RR [] ht]
    exact ⟨_, _, _, _, _, rfl⟩
  rintro e' S' rfl ⟨rfl, x1, x2, x3, x4, x5, rfl⟩
  simp [r3, r4, his, pkR, lstP, opR, itemsR, itemsP, -List.map_drop, -List.map_take, -List.drop_one, -List.map_tail]
  generalize hfor : forL _ _ _ _ _ = r
  refine forL_elim hfor (fun _ e _ => K1 ns e) (by simp) ⟨_, _, _, _, _, rfl⟩ ?_ ?_
  · rintro i x hx e S1 ⟨x1, x2, x3, x4, x5, rfl⟩
    obtain ⟨v, rfl⟩ : ∃ v : Int, x = .int v := by
      simp only [List.getElem?_map, Option.map_eq_some_iff] at hx
      obtain ⟨a, _, rfl⟩ := hx
      exact ⟨a, rfl⟩
    obtain ⟨o, e1, p1⟩ := pen_of_spec (k := 38) S1 h285 v
    have hp1 : PenAt (S1 ++ [o]) S1.length := by
      obtain ⟨a, b, c, rfl⟩ := p1
      exact ⟨a, b, c, by simp⟩
    generalize S1 ++ [o] = T1 at e1 hp1
    generalize S1.length = l at e1 hp1
    obtain ⟨u, o2, e2, p2, l2, g2⟩ := draw_ex (k := 37) T1 h111 h247 (m := 3) hp1 (by omega) (by omega)
    have hp2 := hp1.set p2
    generalize T1.set l o2 = T2 at e2 hp2
    obtain ⟨b, hb, c0, c1⟩ := nums1 l2 g2
    obtain ⟨rows, o3, n, w, e3, p3, fl, n1, n2, w1, w2⟩ := floor_by_spec (k := 36) T2 h142 h111 h247 (cs := [97, 98, 99, 120, 121, 122]) (b := b) hp2 (by decide) (by decide) c0 (by omega)
    have hp3 := hp2.set p3
    generalize T2.set l o3 = T3 at e3 hp3
    simp only [Nat.reduceAdd] at e1 e2 e3
    have tfl : tame (flP rows) = true := nscr_str rows
    simp [forItem_k, e1, pkR, lstP, e2, opR, hb, e3, RR T3 tfl, itemsR, hr4]
    generalize hfor2 : forL _ _ _ _ _ = r
    refine forL_elim hfor2 (fun _ => K2 ns l rows) (by simp) ⟨hp3, _, _, _, rfl⟩ ?_ ?_
    · rintro j x hx e S2 ⟨q1, y1, y2, y3, rfl⟩
      obtain ⟨y, o4, e4, p4, ty⟩ := odd_ex (p := k01.prog) (k := 36) S2 rfl rfl rfl q1 ⟨fl.n, fl.w⟩ (by omega) (by omega) (by omega) (by omega)
      simp only [Nat.reduceAdd] at e4
      have hp4 := q1.set p4
      generalize S2.set l o4 = T4 at e4 hp4
      simp [forItem_k, e4, RR T4 ty]
      exact ⟨hp4, _, _, _, rfl⟩
    · rintro e' S' rfl ⟨q1, y1, y2, y3, rfl⟩
      simp
      exact ⟨_, _, _, _, _, rfl⟩
  · rintro e' S' rfl ⟨x1, x2, x3, x4, x5, rfl⟩
    simp [okT]
end DL

open PySem PySem.W PyProof.Rows
set_option maxRecDepth 100000 in
set_option maxHeartbeats 0 in
theorem PySem.Challenge.cw_tilegrow_k01_what_is_a_floor_holds : PySem.Challenge.rw_tilegrow_k01_what_is_a_floor.Holds := by
  w_on; o_law; k_head; (case hw => w_witness2)
  k_fill
  refine L2.walk_of (l := PySem.Challenge.rw_tilegrow_k01_what_is_a_floor) (n := 63) (k := 40) (x := "script") (CX := fun w => L2.CX PySem.Challenge.rw_tilegrow_k01_what_is_a_floor.prog w) (sp := fun w => DL.spD _ DL.k01.cl 1 (DL.run DL.k01.prog 40 163)) rfl (by decide) rfl ⟨rfl, by decide, by decide⟩ (fun w h Y => PySem.W.kIn_of Y) ?F (fun w H a ns hl _ hS => DL.sp_law hS (DL.k01.main ns hl)) (fun w H s e s' h => DL.cx_none h)
  case F =>
    intro w mg fa h KX G hmg
    refine' DL.k01.all_mk KX G hmg ?a0 ?l0 ?c0 ?k0 ?a1 ?l1 ?c1 ?k1 ?a2 ?l2 ?c2 ?k2 ?a3 ?l3 ?c3 ?k3 ?a4 ?l4 ?c4 ?k4 ?a5 ?l5 ?c5 ?k5 ?a6 ?l6 ?c6 ?k6 ?a7 ?l7 ?c7 ?k7 ?a8 ?l8 ?c8 ?k8 ?a9 ?l9 ?c9 ?k9 ?a10 ?l10 ?c10 ?k10 ?z_all ?z_bool ?z_int ?z_isinstance ?z_len ?z_list ?z_max ?z_range ?z_str ?z_tuple ?x0 ?x1
    (case a0 => k_is); (case l0 => k_is); (case c0 => k_is); (case k0 => k_is); (case a1 => k_is); (case l1 => k_is); (case c1 => k_is); (case k1 => k_is); (case a2 => k_is); (case l2 => k_is); (case c2 => k_is); (case k2 => k_is); (case a3 => k_is); (case l3 => k_is); (case c3 => k_is); (case k3 => k_is); (case a4 => k_is); (case l4 => k_is); (case c4 => k_is); (case k4 => k_is); (case a5 => k_is); (case l5 => k_is); (case c5 => k_is); (case k5 => k_is); (case a6 => k_is); (case l6 => k_is); (case c6 => k_is); (case k6 => k_is); (case a7 => k_is); (case l7 => k_is); (case c7 => k_is); (case k7 => k_is); (case a8 => k_is); (case l8 => k_is); (case c8 => k_is); (case k8 => k_is); (case a9 => k_is); (case l9 => k_is); (case c9 => k_is); (case k9 => k_is); (case a10 => k_is); (case l10 => k_is); (case c10 => k_is); (case k10 => k_is); (case z_all => k_is); (case z_bool => k_is); (case z_int => k_is); (case z_isinstance => k_is); (case z_len => k_is); (case z_list => k_is); (case z_max => k_is); (case z_range => k_is); (case z_str => k_is); (case z_tuple => k_is); (case x0 => k_is); (case x1 => k_is)

