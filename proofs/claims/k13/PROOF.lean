import PyProof.Rows.All
import HandS.ForMost
import HandS.ForExc
import HandS.IsInst
import HandS.Deep
import HandS.ExcCtx
import HandS.HotCalls
import HandS.ExcInit
import HandS.TupAny
import HandS.TupMul
import HandS.Wide
import HandS.Sort
import HandS.Style
import HandS.Dict
import KE.SortData
import HandS.Small
import KE.KDictPairs
import PyProof.LongRange
import HandS.NoneIn
import HandS.Iter
import HandS.More
import HandS.Exc
import HandS.ExcIs
import KE.KExcIs
import HandS.ExcField
import HandS.ExcOwn
import KE.DataFind
import HandS.Text
import PySem.Challenge.RW_tilegrow_k13_lines_by_anybody
import Wide.All
import OpenK.AllK
import Wide.FinOn
set_option linter.all false
set_option Elab.async false
/-! DSem: data, the store, the small language and its evaluator (plain Lean) -/
namespace DL

/-- pure data -/
inductive P where
  | non | bl (b : Bool) | int (i : Int) | str (x : List Nat)
  | tup (xs : List P) | lst (xs : List P) | dic (ks vs : List P)
  /-- the law's script: a list that is only read -/
  | scr (xs : List P)
  deriving Inhabited

mutual
def P.beq : P → P → Bool
  | .non, .non => true
  | .bl a, .bl b => a == b
  | .int a, .int b => decide (a = b)
  | .str a, .str b => decide (a = b)
  | .tup a, .tup b => P.beqs a b
  | .lst a, .lst b => P.beqs a b
  | .dic a c, .dic b d => P.beqs a b && P.beqs c d
  | .scr a, .scr b => P.beqs a b
  | _, _ => false
def P.beqs : List P → List P → Bool
  | [], [] => true
  | a :: r, b :: s => P.beq a b && P.beqs r s
  | _, _ => false
end
mutual
theorem P.beq_refl : ∀ x : P, P.beq x x = true
  | .non => rfl
  | .bl _ => by simp [P.beq]
  | .int _ => by simp [P.beq]
  | .str _ => by simp [P.beq]
  | .tup xs => by simp only [P.beq]; exact P.beqs_refl xs
  | .lst xs => by simp only [P.beq]; exact P.beqs_refl xs
  | .dic a b => by simp only [P.beq, P.beqs_refl a, P.beqs_refl b, Bool.and_self]
  | .scr xs => by simp only [P.beq]; exact P.beqs_refl xs
theorem P.beqs_refl : ∀ xs : List P, P.beqs xs xs = true
  | [] => rfl
  | x :: r => by simp only [P.beqs, P.beq_refl x, P.beqs_refl r, Bool.and_self]
end
mutual
theorem P.beq_eq : ∀ x y : P, P.beq x y = true → x = y
  | .non, y, h => by cases y <;> simp [P.beq] at h ⊢
  | .bl _, y, h => by cases y <;> simp [P.beq] at h ⊢ <;> exact h
  | .int _, y, h => by cases y <;> simp [P.beq] at h ⊢ <;> exact h
  | .str _, y, h => by cases y <;> simp [P.beq] at h ⊢ <;> exact h
  | .tup xs, y, h => by
    cases y <;> simp only [P.beq, Bool.false_eq_true] at h
    rw [P.beqs_eq _ _ h]
  | .lst xs, y, h => by
    cases y <;> simp only [P.beq, Bool.false_eq_true] at h
    rw [P.beqs_eq _ _ h]
  | .dic a b, y, h => by
    cases y <;> simp only [P.beq, Bool.false_eq_true] at h
    rw [Bool.and_eq_true] at h
    rw [P.beqs_eq _ _ h.1, P.beqs_eq _ _ h.2]
  | .scr xs, y, h => by
    cases y <;> simp only [P.beq, Bool.false_eq_true] at h
    rw [P.beqs_eq _ _ h]
theorem P.beqs_eq : ∀ xs ys : List P, P.beqs xs ys = true → xs = ys
  | [], ys, h => by cases ys <;> simp [P.beqs] at h ⊢
  | x :: r, ys, h => by
    cases ys <;> simp only [P.beqs, Bool.false_eq_true] at h
    rw [Bool.and_eq_true] at h
    rw [P.beq_eq _ _ h.1, P.beqs_eq _ _ h.2]
end
instance : DecidableEq P := fun x y => decidable_of_iff (P.beq x y = true) ⟨P.beq_eq x y, fun e => e ▸ P.beq_refl x⟩

/-- a mutable object: a list, a dict, a dict whose values are mutable objects; dead: given up -/
inductive O where
  | lst (xs : List P) | dic (kvs : List (P × P)) | dir (kvs : List (P × Nat)) | dead
  deriving DecidableEq
abbrev Store := List O
/-- a value: data, a mutable object, a caught exception -/
inductive D where
  | p (x : P) | ref (l : Nat) | exc (c : Nat) (fs : List P)
  deriving DecidableEq
abbrev Env := List (Option D)

/-- (tile, block): what stands in a rule -/
def isPair : P → Bool
  | .tup [.str [_], .tup _] => true
  | _ => false
def isPairs : List P → Bool
  | [] => false
  | x :: r => isPair x && r.all isPair
/-- the end of an expression -/
inductive R (α : Type) where
  | ok (a : α) (S : Store) | ex (c : Nat) (fs : List P) (S : Store) | no
def R.bind {α β : Type} (r : R α) (f : α → Store → R β) : R β :=
  match r with
  | .ok a S => f a S
  | .ex c fs S => .ex c fs S
  | .no => .no
@[simp] theorem R.bind_ok {α β : Type} (a : α) (S : Store) (f : α → Store → R β) : (R.ok a S).bind f = f a S := rfl
@[simp] theorem R.bind_ex {α β : Type} (c : Nat) (fs : List P) (S : Store) (f : α → Store → R β) : (R.ex c fs S).bind f = .ex c fs S := rfl
@[simp] theorem R.bind_no {α β : Type} (f : α → Store → R β) : (R.no).bind f = .no := rfl

/-- the end of a statement -/
inductive RS where
  | nx (e : Env) (S : Store) | ret (d : D) (S : Store) | bk (e : Env) (S : Store) | ct (e : Env) (S : Store) | ex (c : Nat) (fs : List P) (e : Env) (S : Store) | no
/-- go on behind an expression in the slots e -/
def R.go {α : Type} (r : R α) (e : Env) (f : α → Store → RS) : RS :=
  match r with
  | .ok a S => f a S
  | .ex c fs S => .ex c fs e S
  | .no => .no
@[simp] theorem R.go_ok {α : Type} (a : α) (S : Store) (e : Env) (f : α → Store → RS) : (R.ok a S).go e f = f a S := rfl
@[simp] theorem R.go_ex {α : Type} (c : Nat) (fs : List P) (S : Store) (e : Env) (f : α → Store → RS) : (R.ex c fs S).go e f = .ex c fs e S := rfl
@[simp] theorem R.go_no {α : Type} (e : Env) (f : α → Store → RS) : (R.no).go e f = .no := rfl

/-- what a value is to be read as -/
def oval : O → Option P
  | .lst xs => some (.lst xs)
  | .dic kvs => some (.dic (kvs.map (·.1)) (kvs.map (·.2)))
  | .dir _ => none
  | .dead => none
def val (S : Store) : D → Option P
  | .p x => some x
  | .ref l => S[l]?.bind oval
  | .exc _ _ => none
def vals (S : Store) : List D → Option (List P)
  | [] => some []
  | d :: r => match val S d, vals S r with
    | some x, some xs => some (x :: xs)
    | _, _ => none

def pures : List D → Option (List P)
  | [] => some []
  | .p x :: r => match pures r with
    | some xs => some (x :: xs)
    | none => none
  | _ :: _ => none

/-- a target: one name, or some names for a tuple's things -/
inductive Tg where
  | one (i : Nat) | many (is : List Nat)
def setMany : List Nat → List P → Env → Option Env
  | [], [], e => some e
  | i :: is, x :: xs, e => setMany is xs (e.set i (some (.p x)))
  | _, _, _ => none
def assignTg : Tg → D → Store → Env → Option Env
  | .one i, d, _, e => some (e.set i (some d))
  | .many is, .p (.tup xs), _, e => setMany is xs e
  | .many _, _, _, _ => none
def wipeD (e : Env) : List Nat → Env
  | [] => e
  | v :: vs => (wipeD e vs).set v none

/-- what changes an object: the object, the arguments; the new object, what is told -/
abbrev Mu := O → List P → Option (O × P)

mutual
inductive IE where
  /-- data -/
  | c (x : P)
  | v (i : Nat)
  /-- by the values of the parts -/
  | op (f : List P → Option P) (es : IEs)
  /-- the same where each part is data -/
  | pk (f : List P → Option P) (es : IEs)
  | call (f : Nat) (es : IEs)
  | and_ (a b : IE) | or_ (a b : IE) | not_ (a : IE) | ite (t a b : IE)
  /-- a < b < c -/
  | chain (f g : P → P → Option Bool) (a b c : IE)
  /-- [elt for tg in items if cd] -/
  | comp (vs : List Nat) (tg : Tg) (f : List P → Option (List P)) (es : IEs) (cd elt : IE)
  /-- a part of a slice: an int -/
  | part (a : IE)
  /-- a new list or dict, as a mutable object -/
  | new (a : IE)
  /-- a mutable object given up for its data -/
  | frz (a : IE)
  /-- a.m(..): T looks at a ahead of the arguments -/
  | meth (T : P → Bool) (f : List P → Option P) (a : IE) (es : IEs)
  /-- a change of an object -/
  | mut (T : P → Bool) (g : Mu) (a : IE) (es : IEs)
  /-- the object that stands at a key -/
  | getr (a k : IE)
  /-- isinstance(e, C) of a caught exception; its field -/
  | isx (hits : Nat → Bool) (a : IE)
  | fld (g : Nat → Option Nat) (a : IE)
inductive IEs where
  | nil | cons (e : IE) (es : IEs)
end
mutual
inductive IS where
  | asg (tg : Tg) (e : IE)
  | expr (e : IE)
  | ret (e : IE)
  | iff (t : IE) (a b : ISs)
  | for_ (tg : Tg) (f : List P → Option (List P)) (es : IEs) (b : ISs)
  | whl (t : IE) (b : ISs)
  | pass | brk | cnt
  /-- a[k] = v -/
  | sub (g : Mu) (a k v : IE)
  /-- d[k] = a new object -/
  | putr (d k v : IE)
  | raise (c : Nat) (es : IEs)
  /-- try: b except C as slot: h -/
  | try_ (b : ISs) (hits : Nat → Bool) (slot : Option Nat) (h : ISs)
inductive ISs where
  | nil | cons (s : IS) (r : ISs)
end

def trueP : P → Option Bool
  | .bl b => some b
  | _ => none
def trueD : D → Option Bool
  | .p x => trueP x
  | _ => none

/-- the items' loop of a comprehension -/
def compL (chk : Store → Bool) (f : P → Store → R (Option P)) : List P → Store → R (List P)
  | [], S => if chk S then .ok [] S else .no
  | x :: r, S => if chk S then (match f x S with
    | .ok o S1 => (compL chk f r S1).bind fun ys S2 => .ok (match o with | some y => y :: ys | none => ys) S2
    | _ => .no) else .no
/-- the items' loop of a for -/
def forL (chk : Store → Bool) (f : P → Env → Store → RS) : List P → Env → Store → RS
  | [], e, S => if chk S then .nx e S else .no
  | x :: r, e, S => if chk S then
      match f x e S with
      | .nx e1 S1 => forL chk f r e1 S1
      | .ct e1 S1 => forL chk f r e1 S1
      | .bk e1 S1 => .nx e1 S1
      | .ret d S1 => .ret d S1
      | .ex c fs e1 S1 => .ex c fs e1 S1
      | .no => .no
    else .no
/-- a while's loop, at most so many turns -/
def whlL (c : Env → Store → R D) (f : Env → Store → RS) : Nat → Env → Store → RS
  | 0, _, _ => .no
  | n + 1, e, S => (c e S).go e fun d S1 =>
      match trueD d with
      | some true => (match f e S1 with
        | .nx e1 S2 => whlL c f n e1 S2
        | .ct e1 S2 => whlL c f n e1 S2
        | .bk e1 S2 => .nx e1 S2
        | .ret d S2 => .ret d S2
        | .ex c fs e1 S2 => .ex c fs e1 S2
        | .no => .no)
      | some false => .nx e S1
      | none => .no

def newD : D → Store → R D
  | .p (.lst xs), S => .ok (.ref S.length) (S ++ [.lst xs])
  | .p (.dic ks vs), S => .ok (.ref S.length) (S ++ [.dic (ks.zip vs)])
  | _, _ => .no
def freezeR (S : Store) : List (P × Nat) → Option (List P)
  | [] => some []
  | (_, l) :: r => match S[l]?.bind oval, freezeR S r with
    | some x, some xs => some (x :: xs)
    | _, _ => none
def killR (S : Store) : List (P × Nat) → Store
  | [] => S
  | (_, l) :: r => killR (S.set l .dead) r
/-- the objects that stood at the entry speak of no new ones -/
def okT : Store → Store → Bool
  | [], _ => true
  | _ :: _, [] => false
  | a :: r, b :: s => (match b with
    | .dir _ => decide (a = b)
    | _ => true) && okT r s
/-- what is left of the store where the object at l is given up; S0: the store ahead of it -/
def gone (S0 : Store) (l : Nat) (S : Store) : Store := if l = S0.length ∧ S.length = S0.length + 1 ∧ okT S0 S = true then S.take S0.length else S.set l .dead
def frzD (S0 : Store) : D → Store → R D
  | .p x, S => .ok (.p x) S
  | .ref l, S => match S[l]? with
    | some (.lst xs) => .ok (.p (.lst xs)) (gone S0 l S)
    | some (.dic kvs) => .ok (.p (.dic (kvs.map (·.1)) (kvs.map (·.2)))) (gone S0 l S)
    | some (.dir kvs) => (match freezeR S kvs with
      | some vs => .ok (.p (.dic (kvs.map (·.1)) vs)) (killR (S.set l .dead) kvs)
      | none => .no)
    | _ => .no
  | _, _ => .no
def mutD (g : Mu) (d : D) (xs : List P) (S : Store) : R D :=
  match d with
  | .ref l => match S[l]? with
    | some o => (match g o xs with
      | some (o', y) => .ok (.p y) (S.set l o')
      | none => .no)
    | none => .no
  | _ => .no
def lookR (k : P) : List (P × Nat) → Option Nat
  | [] => none
  | (j, l) :: r => if j = k then some l else lookR k r

/-- the end of a def: the objects that stood at the entry, what is told -/
def fin (S0 : Store) : RS → R D
  | .nx _ S => if okT S0 S then .ok (.p .non) (S.take S0.length) else .no
  | .ret (.p x) S => if okT S0 S then .ok (.p x) (S.take S0.length) else .no
  | .ret (.ref l) S => if okT S0 S then (if l < S0.length then .ok (.ref l) (S.take S0.length) else
    match S[l]? with
    | some (.lst xs) => .ok (.ref S0.length) (S.take S0.length ++ [.lst xs])
    | some (.dic kvs) => .ok (.ref S0.length) (S.take S0.length ++ [.dic kvs])
    | _ => .no) else .no
  | .ex c fs _ S => if okT S0 S then .ex c fs (S.take S0.length) else .no
  | _ => .no

abbrev Rn := Nat → List D → Store → R D
def isxD (hits : Nat → Bool) : D → Store → R D
  | .exc c _, S => .ok (.p (.bl (hits c))) S
  | _, _ => .no
def fldD (g : Nat → Option Nat) : D → Store → R D
  | .exc c fs, S => (match (g c).bind fun k => fs[k]? with
    | some x => .ok (.p x) S
    | none => .no)
  | _, _ => .no
def clr : Option D → Option D
  | some (.exc _ _) => none
  | x => x
/-- the slots without exceptions -/
def clearX (e : Env) : Env := e.map clr
def wipeO (slot : Option Nat) (e : Env) : Env := match slot with
  | some i => e.set i none
  | none => e
def noExcD : D → Bool
  | .exc _ _ => false
  | _ => true
/-- the end of an except suite: its name goes, nothing may fly -/
def suiteEnd (slot : Option Nat) : RS → RS
  | .nx e S => .nx (wipeO slot (clearX e)) S
  | .bk e S => .bk (wipeO slot (clearX e)) S
  | .ct e S => .ct (wipeO slot (clearX e)) S
  | .ret d S => if noExcD d then .ret d S else .no
  | .ex _ _ _ _ => .no
  | .no => .no

section
variable (rn : Rn) (w : Nat)
mutual
def evE : IE → Env → Store → R D
  | .c x, _, S => .ok (.p x) S
  | .v i, e, S => match e[i]? with
    | some (some d) => .ok d S
    | _ => .no
  | .op f es, e, S => (evEs es e S).bind fun ds S1 =>
    match vals S1 ds with
    | some xs => (match f xs with
      | some y => .ok (.p y) S1
      | none => .no)
    | none => .no
  | .pk f es, e, S => (evEs es e S).bind fun ds S1 =>
    match pures ds with
    | some xs => (match f xs with
      | some y => .ok (.p y) S1
      | none => .no)
    | none => .no
  | .call f es, e, S => (evEs es e S).bind fun ds S1 => rn f ds S1
  | .and_ a b, e, S => (evE a e S).bind fun d S1 =>
    match trueD d with
    | some true => evE b e S1
    | some false => .ok (.p (.bl false)) S1
    | none => .no
  | .or_ a b, e, S => (evE a e S).bind fun d S1 =>
    match trueD d with
    | some true => .ok (.p (.bl true)) S1
    | some false => evE b e S1
    | none => .no
  | .not_ a, e, S => (evE a e S).bind fun d S1 =>
    match trueD d with
    | some b => .ok (.p (.bl (!b))) S1
    | none => .no
  | .ite t a b, e, S => (evE t e S).bind fun d S1 =>
    match trueD d with
    | some true => evE a e S1
    | some false => evE b e S1
    | none => .no
  | .chain f g a b c, e, S => (evE a e S).bind fun d1 S1 => (evE b e S1).bind fun d2 S2 =>
    match d1, d2 with
    | .p x, .p y => (match f x y with
      | some true => (evE c e S2).bind fun d3 S3 =>
        (match d3 with
        | .p z => (match g y z with
          | some r => .ok (.p (.bl r)) S3
          | none => .no)
        | _ => .no)
      | some false => .ok (.p (.bl false)) S2
      | none => .no)
    | _, _ => .no
  | .comp vs tg f es cd elt, e, S => (evEs es e S).bind fun ds S1 =>
    match vals S1 ds with
    | some xs => (match f xs with
      | some items => (compL (fun S2 => decide (vals S2 ds = some xs)) (fun x S2 =>
          match assignTg tg (.p x) S2 (wipeD e vs) with
          | some e1 => (evE cd e1 S2).bind fun t S3 =>
            (match trueD t with
            | some true => (evE elt e1 S3).bind fun d S4 =>
              (match d with
              | .p y => .ok (some y) S4
              | _ => .no)
            | some false => .ok none S3
            | none => .no)
          | none => .no) items S1).bind fun ys S2 => .ok (.p (.lst ys)) S2
      | none => .no)
    | none => .no
  | .part a, e, S => (evE a e S).bind fun d S1 =>
    match d with
    | .p (.int i) => .ok (.p (.int i)) S1
    | _ => .no
  | .new a, e, S => (evE a e S).bind newD
  | .frz a, e, S => (evE a e S).bind (frzD S)
  | .meth T f a es, e, S => (evE a e S).bind fun d S1 =>
    match val S1 d with
    | some x => if T x then (evEs es e S1).bind fun ds S2 =>
        (match vals S2 (d :: ds) with
        | some xs => (match f xs with
          | some y => .ok (.p y) S2
          | none => .no)
        | none => .no) else .no
    | none => .no
  | .mut T g a es, e, S => (evE a e S).bind fun d S1 =>
    match val S1 d with
    | some x => if T x then (evEs es e S1).bind fun ds S2 =>
        (match pures ds with
        | some xs => mutD g d xs S2
        | none => .no) else .no
    | none => .no
  | .getr a k, e, S => (evE a e S).bind fun d S1 => (evE k e S1).bind fun j S2 =>
    match d, j with
    | .ref l, .p x => (match S2[l]? with
      | some (.dir kvs) => (match lookR x kvs with
        | some m => .ok (.ref m) S2
        | none => .no)
      | _ => .no)
    | _, _ => .no
  | .isx hits a, e, S => (evE a e S).bind fun d S1 => isxD hits d S1
  | .fld g a, e, S => (evE a e S).bind fun d S1 => fldD g d S1
def evEs : IEs → Env → Store → R (List D)
  | .nil, _, S => .ok [] S
  | .cons a r, e, S => (evE a e S).bind fun d S1 => (evEs r e S1).bind fun ds S2 => .ok (d :: ds) S2
end
def putrD (d j v : D) (S : Store) (e : Env) : RS :=
  match d, j, v with
  | .ref l, .p x, .ref m =>
      (match S[l]? with
      | some (.dir kvs) => if lookR x kvs = none then .nx e (S.set l (.dir (kvs ++ [(x, m)]))) else .no
      | some (.dic []) => .nx e (S.set l (.dir [(x, m)]))
      | _ => .no)
  | _, _, _ => .no
mutual
def evS : IS → Env → Store → RS
  | .asg tg a, e, S => (evE rn a e S).go e fun d S1 =>
    match assignTg tg d S1 e with
    | some e1 => .nx e1 S1
    | none => .no
  | .expr a, e, S => (evE rn a e S).go e fun _ S1 => .nx e S1
  | .ret a, e, S => (evE rn a e S).go e fun d S1 => .ret d S1
  | .iff t a b, e, S => (evE rn t e S).go e fun d S1 =>
    match trueD d with
    | some true => evSs a e S1
    | some false => evSs b e S1
    | none => .no
  | .for_ tg f es b, e, S => (evEs rn es e S).go e fun ds S1 =>
    match vals S1 ds with
    | some xs => (match f xs with
      | some items => forL (fun S2 => decide (vals S2 ds = some xs)) (fun x e1 S2 =>
          match assignTg tg (.p x) S2 e1 with
          | some e2 => evSs b e2 S2
          | none => .no) items e S1
      | none => .no)
    | none => .no
  | .whl t b, e, S => whlL (fun e S => evE rn t e S) (fun e S => evSs b e S) w e S
  | .pass, e, S => .nx e S
  | .brk, e, S => .bk e S
  | .cnt, e, S => .ct e S
  | .sub g a k v, e, S => (evE rn v e S).go e fun v1 S1 => (evE rn a e S1).go e fun d1 S2 => (evE rn k e S2).go e fun k1 S3 =>
    match v1, k1 with
    | .p y, .p x => (mutD g d1 [x, y] S3).go e fun _ S4 => .nx e S4
    | _, _ => .no
  | .putr d k v, e, S => (evE rn v e S).go e fun v1 S1 => (evE rn d e S1).go e fun d1 S2 => (evE rn k e S2).go e fun k1 S3 => putrD d1 k1 v1 S3 e
  | .raise c es, e, S => (evEs rn es e S).go e fun ds S1 =>
    match pures ds with
    | some xs => .ex c xs.reverse e S1
    | none => .no
  | .try_ b hits slot h, e, S => match evSs b e S with
    | .ex c fs e1 S1 => if hits c then
        (match slot with
        | none => suiteEnd none (evSs h e1 S1)
        | some i => suiteEnd (some i) (evSs h (e1.set i (some (.exc c fs))) S1))
      else .ex c fs e1 S1
    | r => r
def evSs : ISs → Env → Store → RS
  | .nil, e, S => .nx e S
  | .cons s r, e, S => match evS s e S with
    | .nx e1 S1 => evSs r e1 S1
    | .ret d S1 => .ret d S1
    | .bk e1 S1 => .bk e1 S1
    | .ct e1 S1 => .ct e1 S1
    | .ex c fs e1 S1 => .ex c fs e1 S1
    | .no => .no
end
end

/-- a def: how many parameters, how many other names, the body -/
structure Fn where
  np : Nat
  nv : Nat
  body : ISs
abbrev Prog := Nat → Option Fn
/-- how many turns a while may take -/
def turnsMost : Nat := 2 ^ 60
def run (p : Prog) : Nat → Rn
  | 0, _, _, _ => .no
  | k + 1, f, ds, S => match p f with
    | some fn => if ds.length = fn.np then fin S (evSs (run p k) turnsMost fn.body (ds.map some ++ List.replicate fn.nv none) S) else .no
    | none => .no
end DL

/-! DOps: operations on data (plain Lean) -/
namespace DL
def line : Nat := 16777216
def addP : List P → Option P
  | [.int a, .int b] => some (.int (a + b))
  | [.str a, .str b] => if a.length + b.length ≤ line then some (.str (a ++ b)) else none
  | [.tup a, .tup b] => if a.length + b.length ≤ line ∧ (a = [] ∨ b = [] ∨ isPairs (a ++ b) = false) then some (.tup (a ++ b)) else none
  | [.lst a, .lst b] => if a.length + b.length ≤ line then some (.lst (a ++ b)) else none
  | _ => none
def subP : List P → Option P
  | [.int a, .int b] => some (.int (a - b))
  | _ => none
def negP : List P → Option P
  | [.int a] => some (.int (-a))
  | _ => none
def mulP : List P → Option P
  | [.int a, .int b] => if a.natAbs.log2 + b.natAbs.log2 < 1000000 then some (.int (a * b)) else none
  | [.lst a, .int k] => if -9223372036854775808 ≤ k ∧ k < 9223372036854775808 ∧ a.length * k.toNat ≤ line then some (.lst (List.replicate k.toNat a).flatten) else none
  | [.tup a, .int k] => if a ≠ [] ∧ 2 ≤ k ∧ k ≤ 1000 ∧ a.length ≤ 1000 ∧ isPairs (List.replicate k.toNat a).flatten = false then some (.tup (List.replicate k.toNat a).flatten) else none
  | [.str a, .int k] => if 2 ≤ k ∧ k ≤ 1000 ∧ 1 ≤ a.length ∧ a.length ≤ 1000 then some (.str (List.replicate k.toNat a).flatten) else none
  | _ => none
def fdivP : List P → Option P
  | [.int a, .int b] => if 0 < b ∧ b.natAbs.log2 < 9000 then some (.int (a / b)) else none
  | _ => none
def modP : List P → Option P
  | [.int a, .int b] => if 0 < b then some (.int (a % b)) else none
  | _ => none
def powP : List P → Option P
  | [.int a, .int b] => if 0 ≤ b ∧ b ≤ 1000000 ∧ a.natAbs < 18446744073709551616 then some (.int (a ^ b.toNat)) else none
  | _ => none
def ltP : List P → Option P
  | [.int a, .int b] => some (.bl (decide (a < b)))
  | _ => none
def leP : List P → Option P
  | [.int a, .int b] => some (.bl (decide (a ≤ b)))
  | _ => none
def gtP : List P → Option P
  | [.int a, .int b] => some (.bl (decide (b < a)))
  | _ => none
def geP : List P → Option P
  | [.int a, .int b] => some (.bl (decide (b ≤ a)))
  | _ => none
mutual
/-- == -/
def P.eqv : P → P → Bool
  | .non, .non => true
  | .bl a, .bl b => a == b
  | .bl a, .int j => decide ((if a then 1 else 0) = j)
  | .int i, .bl b => decide (i = (if b then 1 else 0))
  | .int i, .int j => decide (i = j)
  | .str x, .str y => decide (x = y)
  | .lst xs, .lst ys => P.eqvs xs ys
  | .tup xs, .tup ys => P.eqvs xs ys
  | _, _ => false
def P.eqvs : List P → List P → Bool
  | [], [] => true
  | x :: xs, y :: ys => P.eqv x y && P.eqvs xs ys
  | _, _ => false
end
mutual
/-- no dict in it, at most so deep -/
def P.shp : Nat → P → Bool
  | _, .non => true
  | _, .bl _ => true
  | _, .int _ => true
  | _, .str _ => true
  | n + 1, .lst xs => P.shps n xs
  | n + 1, .tup xs => P.shps n xs
  | _, _ => false
def P.shps : Nat → List P → Bool
  | _, [] => true
  | n, x :: r => P.shp n x && P.shps n r
end
def eqP : List P → Option P
  | [x, y] => if x.shp 60 && y.shp 60 then some (.bl (x.eqv y)) else none
  | _ => none
def neP : List P → Option P
  | [x, y] => if x.shp 60 && y.shp 60 then some (.bl (!x.eqv y)) else none
  | _ => none
def isNoneP : List P → Option P
  | [.non] => some (.bl true)
  | [.bl _] => some (.bl false)
  | [.int _] => some (.bl false)
  | [.str _] => some (.bl false)
  | [.tup _] => some (.bl false)
  | [.lst _] => some (.bl false)
  | [.dic _ _] => some (.bl false)
  | _ => none
def notNoneP : List P → Option P
  | [.non] => some (.bl false)
  | [.bl _] => some (.bl true)
  | [.int _] => some (.bl true)
  | [.str _] => some (.bl true)
  | [.tup _] => some (.bl true)
  | [.lst _] => some (.bl true)
  | [.dic _ _] => some (.bl true)
  | _ => none
/-- the place of an index of any sign -/
def ixN' (n : Nat) (i : Int) : Option Nat := if 0 ≤ i then (if i < n then some i.toNat else none) else if -(n : Int) ≤ i then some (i + n).toNat else none
def atP {α : Type} (xs : List α) (i : Int) : Option α := (ixN' xs.length i).bind fun j => xs[j]?
def ixP : List P → Option P
  | [.lst xs, .int i] => atP xs i
  | [.tup xs, .int i] => atP xs i
  | [.scr xs, .int i] => atP xs i
  | [.str x, .int i] => (atP x i).map fun c => .str [c]
  | _ => none
/-- where a slice begins or ends -/
def sIx' (n d : Nat) : P → Option Nat
  | .non => some d
  | .int v => some (if v < 0 then (v + (n : Int)).toNat else min v.toNat n)
  | _ => none
def cutL {α : Type} (xs : List α) (lo hi : Nat) : List α := (xs.drop lo).take (hi - lo)
def sliceP : List P → Option P
  | [.str x, l, h] => match sIx' x.length 0 l, sIx' x.length x.length h with
    | some lo, some hi => some (.str (cutL x lo hi))
    | _, _ => none
  | [.tup x, l, h] => match sIx' x.length 0 l, sIx' x.length x.length h with
    | some lo, some hi => if isPairs (cutL x lo hi) = false ∨ (lo = 0 ∧ hi = x.length) then some (.tup (cutL x lo hi)) else none
    | _, _ => none
  | [.lst x, l, h] => match sIx' x.length 0 l, sIx' x.length x.length h with
    | some lo, some hi => some (.lst (cutL x lo hi))
    | _, _ => none
  | [.scr x, l, h] => match sIx' x.length 0 l, sIx' x.length x.length h with
    | some lo, some hi => some (.lst (cutL x lo hi))
    | _, _ => none
  | _ => none
def sliceL : List P → Option P
  | [.lst x, l, h] => match sIx' x.length 0 l, sIx' x.length x.length h with
    | some lo, some hi => some (.lst (cutL x lo hi))
    | _, _ => none
  | [.scr x, l, h] => match sIx' x.length 0 l, sIx' x.length x.length h with
    | some lo, some hi => some (.lst (cutL x lo hi))
    | _, _ => none
  | _ => none
def lenP : List P → Option P
  | [.lst xs] => some (.int xs.length)
  | [.tup xs] => some (.int xs.length)
  | [.scr xs] => some (.int xs.length)
  | [.str x] => some (.int x.length)
  | [.dic ks _] => some (.int ks.length)
  | _ => none
def max2P : List P → Option P
  | [.int a, .int b] => some (.int (if b > a then b else a))
  | _ => none
def min2P : List P → Option P
  | [.int a, .int b] => some (.int (if b < a then b else a))
  | _ => none
def absP : List P → Option P
  | [.int a] => some (.int (if a < 0 then -a else a))
  | _ => none
def intP : List P → Option P
  | [.int a] => some (.int a)
  | [.bl b] => some (.int (if b then 1 else 0))
  | _ => none
def tupleP : List P → Option P
  | [.lst xs] => some (.tup xs)
  | [.tup xs] => some (.tup xs)
  | _ => none
def listP : List P → Option P
  | [.lst xs] => some (.lst xs)
  | [.tup xs] => some (.lst xs)
  | [.scr xs] => some (.lst xs)
  | _ => none
def strsP : List P → Option (List (List Nat))
  | [] => some []
  | .str x :: r => match strsP r with
    | some xs => some (x :: xs)
    | none => none
  | _ :: _ => none
def joinL (a : List Nat) : List (List Nat) → List Nat
  | [] => []
  | [x] => x
  | x :: y :: r => x ++ a ++ joinL a (y :: r)
def joinP : List P → Option P
  | [.str a, .lst xs] => match strsP xs with
    | some ys => if (ys.map (·.length)).sum + ys.length * a.length ≤ line then some (.str (joinL a ys)) else none
    | none => none
  | [.str a, .tup xs] => match strsP xs with
    | some ys => if (ys.map (·.length)).sum + ys.length * a.length ≤ line then some (.str (joinL a ys)) else none
    | none => none
  | _ => none
def isTyP (T : String) : P → Option Bool
  | .non => some false
  | .bl _ => some (decide (T = "bool") || decide (T = "int"))
  | .int _ => some (decide (T = "int"))
  | .str _ => some (decide (T = "str"))
  | .tup _ => some (decide (T = "tuple"))
  | .lst _ => some (decide (T = "list"))
  | .dic _ _ => some (decide (T = "dict"))
  | _ => none
/-- isinstance(x, T) -/
def isiP (T : String) : List P → Option P
  | [x] => (isTyP T x).map .bl
  | _ => none
def bools : List P → Option (List Bool)
  | [] => some []
  | .bl b :: r => match bools r with
    | some bs => some (b :: bs)
    | none => none
  | _ :: _ => none
def allP : List P → Option P
  | [.lst xs] => (bools xs).map fun bs => .bl (bs.all id)
  | _ => none
def anyP : List P → Option P
  | [.lst xs] => (bools xs).map fun bs => .bl (bs.any id)
  | _ => none
/-- one sign in a text -/
def inSignP : List P → Option P
  | [.str [c], .str z] => some (.bl (decide (c ∈ z)))
  | _ => none
def notInSignP : List P → Option P
  | [.str [c], .str z] => some (.bl (!decide (c ∈ z)))
  | _ => none
/-- x in range(lo, hi) -/
def inRangeP : List P → Option P
  | [.int i, .int lo, .int hi] => some (.bl (decide (lo ≤ i ∧ i < hi)))
  | _ => none
def notInRangeP : List P → Option P
  | [.int i, .int lo, .int hi] => some (.bl (!decide (lo ≤ i ∧ i < hi)))
  | _ => none
/-! ### changes -/
def appendM : Mu
  | .lst xs, [y] => if xs.length < line then some (.lst (xs ++ [y]), .non) else none
  | _, _ => none
def setM : Mu
  | .lst xs, [.int i, y] => match ixN' xs.length i with
    | some j => some (.lst (xs.set j y), .non)
    | none => none
  | _, _ => none
def itemsP : List P → Option (List P)
  | [.lst xs] => some xs
  | [.tup xs] => some xs
  | [.str x] => some (x.map fun c => .str [c])
  | _ => none
def rangeL (lo : Int) (n : Nat) : List P := (List.range n).map fun (i : Nat) => .int (lo + (i : Int))
def range1P : List P → Option (List P)
  | [.int j] => if j ≤ 16777216 ∧ -1000000000 ≤ j then some (rangeL 0 j.toNat) else none
  | _ => none
def range2P : List P → Option (List P)
  | [.int i, .int j] => if -4611686018427387904 ≤ i ∧ i < 4611686018427387904 ∧ -4611686018427387904 ≤ j ∧ j < 4611686018427387904 ∧ j - i ≤ 16777216 then some (rangeL i (j - i).toNat) else none
  | _ => none
/-- len of what is no dict -/
def lenQ (xs : List P) : Option P := match xs with | [.dic _ _] => none | xs => lenP xs
def catP : List P → Option P
  | [.lst a, .lst b] => if a.length + b.length ≤ line then some (.lst (a ++ b)) else none
  | _ => none
def repP : List P → Option P
  | [.lst a, .int k] => if -9223372036854775808 ≤ k ∧ k < 9223372036854775808 ∧ a.length * k.toNat ≤ line then some (.lst (List.replicate k.toNat a).flatten) else none
  | _ => none
def isP : List P → Option P
  | [x, .non] => isNoneP [x]
  | _ => none
def isNotP : List P → Option P
  | [x, .non] => notNoneP [x]
  | _ => none
def iaddP : List P → Option P := fun xs => match xs with | [.int a, .int b] => some (.int (a + b)) | _ => none
/-- (a, b, ..) -/
def tupP (xs : List P) : Option P := if isPairs xs then none else some (.tup xs)
/-- [a, b, ..] -/
def lstP (xs : List P) : Option P := some (.lst xs)
def isTy (T : String) : P → Bool
  | .str _ => decide (T = "str")
  | .lst _ => decide (T = "list")
  | .dic _ _ => decide (T = "dict")
  | _ => false
end DL

/-! DOps2: more operations on data (plain Lean) -/
namespace DL
/-- what is never come to -/
def irNo : IS := .expr (.op (fun _ => none) .nil)
def revP : List P → Option P
  | [.str x] => some (.str x.reverse)
  | [.lst xs] => some (.lst xs.reverse)
  | _ => none
mutual
/-- < -/
def P.lt : P → P → Bool
  | .bl a, .bl b => !a && b
  | .int a, .int b => decide (a < b)
  | .str a, .str b => decide (a < b)
  | .tup a, .tup b => P.lts a b
  | .lst a, .lst b => P.lts a b
  | _, _ => false
def P.lts : List P → List P → Bool
  | [], [] => false
  | [], _ :: _ => true
  | _ :: _, [] => false
  | x :: xs, y :: ys => if P.eqv x y then P.lts xs ys else P.lt x y
end
mutual
/-- of one kind, place by place -/
def P.alk : P → P → Bool
  | .non, .non => true
  | .bl _, .bl _ => true
  | .int _, .int _ => true
  | .str _, .str _ => true
  | .tup a, .tup b => P.alks a b
  | .lst a, .lst b => P.alks a b
  | _, _ => false
def P.alks : List P → List P → Bool
  | x :: xs, y :: ys => P.alk x y && P.alks xs ys
  | [], _ => true
  | _ :: _, [] => true
end
def tupN : P → Bool
  | .tup (_ :: _) => true
  | _ => false
def notTN : P → Bool
  | .tup _ => false
  | .non => false
  | _ => true
def canSort (xs : List P) : Bool := xs.all (fun x => xs.all fun y => P.alk x y) && (xs.all tupN || xs.all notTN) && P.shps 60 xs && decide (xs.length ≤ line)
def sortP (xs : List P) : List P := xs.mergeSort fun a b => !P.lt b a
def sortedP : List P → Option P
  | [.lst xs] => if canSort xs then some (.lst (sortP xs)) else none
  | _ => none
/-- {} -/
def dnewP (_ : List P) : Option P := some (.dic [] [])
/-- list(x), of a text too -/
def listQ : List P → Option P
  | [.str x] => some (.lst (x.map fun c => .str [c]))
  | xs => listP xs
/-! ### dicts -/
def atomP : P → Bool
  | .int _ => true
  | .str _ => true
  | _ => false
/-- a key: a number, a text, a tuple of these -/
def isKeyP : P → Bool
  | .int _ => true
  | .str _ => true
  | .tup xs => xs.all atomP
  | _ => false
def isTupP : P → Bool
  | .tup _ => true
  | _ => false
def lookP (k : P) : List P → List P → Option P
  | j :: ks, v :: vs => if j = k then some v else lookP k ks vs
  | _, _ => none
/-- x[i], of a dict too -/
def ixQ : List P → Option P
  | [.dic ks vs, k] => if isKeyP k then lookP k ks vs else none
  | xs => ixP xs
/-- x in y -/
def inQ : List P → Option P
  | [k, .dic ks _] => if isKeyP k && ks.all (fun j => isTupP j == isTupP k) then some (.bl (decide (k ∈ ks))) else none
  | [x, .lst ys] => if P.shp 59 x && P.shps 59 ys then some (.bl (ys.any fun y => P.eqv y x)) else none
  | [.str [c], .str z] => some (.bl (decide (c ∈ z)))
  | _ => none
def notInQ (xs : List P) : Option P := match inQ xs with
  | some (.bl b) => some (.bl (!b))
  | _ => none
/-- d[k] = v: in its place, or at the end -/
def putP (k v : P) (kvs : List (P × P)) : List (P × P) := if kvs.any (fun q => decide (q.1 = k)) then kvs.map (fun q => if q.1 = k then (q.1, v) else q) else kvs ++ [(k, v)]
def pairP2 : P → Option (P × P)
  | .tup [k, v] => if atomP k then some (k, v) else none
  | _ => none
def pairsP : List P → Option (List (P × P))
  | [] => some []
  | x :: r => match pairP2 x, pairsP r with
    | some p, some ps => some (p :: ps)
    | _, _ => none
def mkDict (ps : List (P × P)) : List (P × P) := ps.foldl (fun acc p => putP p.1 p.2 acc) []
def dicOf (kvs : List (P × P)) : P := .dic (kvs.map (·.1)) (kvs.map (·.2))
/-- dict(x) of a list of pairs, of a rule's tuple -/
def dictP : List P → Option P
  | [.lst xs] => (pairsP xs).map fun ps => dicOf (mkDict ps)
  | [.tup xs] => if isPairs xs then (pairsP xs).map fun ps => dicOf (mkDict ps) else none
  | _ => none
/-- xs[i] = v, d[k] = v -/
def setQ : Mu
  | .dic kvs, [k, v] => if isKeyP k && kvs.all (fun q => isTupP q.1 == isTupP k) && decide (kvs.length < line) then some (.dic (putP k v kvs), .non) else none
  | o, ys => setM o ys
/-- xs[::-1] of a list, the new one -/
def revL : List P → Option P
  | [.lst xs] => some (.lst xs.reverse)
  | _ => none
/-- range(i, j), of any whole numbers -/
def range2Q : List P → Option (List P)
  | [.int i, .int j] => if j - i ≤ 16777216 then some (rangeL i (j - i).toNat) else none
  | _ => none
/-- a list's things, for names -/
def tupL : List P → Option P
  | [.lst xs] => some (.tup xs)
  | _ => none
/-- a truth for a chain -/
def chB (f : List P → Option P) (x y : P) : Option Bool := match f [x, y] with
  | some (.bl b) => some b
  | _ => none
/-- (0, x), (1, y), .. -/
def enumL (k : Nat) (xs : List P) : List P := (xs.zipIdx k).map fun p => .tup [.int (p.2 : Int), p.1]
def enumP : List P → Option (List P)
  | [.lst xs] => if xs.length ≤ line then some (enumL 0 xs) else none
  | _ => none
def insertM : Mu
  | .lst xs, [.int i, y] => if xs.length < line ∧ 0 ≤ i ∧ i < 4611686018427387904 then some (.lst (xs.take i.toNat ++ [y] ++ xs.drop i.toNat), .non) else none
  | _, _ => none
/-- (a, b, ..), of any things -/
def tupQ (xs : List P) : Option P := some (.tup xs)
/-- d[k] = v -/
def setDM : Mu
  | .dic kvs, [k, v] => if isKeyP k && kvs.all (fun q => isTupP q.1 == isTupP k) && decide (kvs.length < line) then some (.dic (putP k v kvs), .non) else none
  | _, _ => none
/-- {k: v} -/
def dispP : List P → Option P
  | [k, v] => if atomP k then some (.dic [k] [v]) else none
  | _ => none
/-- a number, a text that is one -/
def okAtom : P → Bool
  | .int _ => true
  | .str x => decide (x.length ≤ 16777216) && x.all fun c => decide (c < 1114112)
  | _ => false
/-- list(d): the keys -/
def listD : List P → Option P
  | [.dic ks _] => if !ks.isEmpty && ks.all okAtom then some (.lst ks) else none
  | _ => none
/-- d.get(k), d.get(k, x) -/
def getP : List P → Option P
  | [.dic ks vs, k] => if isKeyP k && ks.all (fun j => isTupP j == isTupP k) && !ks.isEmpty then some ((lookP k ks vs).getD .non) else none
  | _ => none
/-- xs.index(y): there -/
def indexP : List P → Option P
  | [.lst ys, x] => if P.shp 59 x && P.shps 59 ys then (ys.findIdx? fun y => P.eqv y x).map fun j => .int (j : Nat) else none
  | _ => none
/-- xs.count(y) -/
def lcountP : List P → Option P
  | [.lst ys, x] => if P.shp 59 x && P.shps 59 ys then some (.int (ys.countP fun y => P.eqv y x : Nat)) else none
  | _ => none
end DL

/-! DOps3: further operations on data -/
namespace DL
/-- one small letter made great -/
def upperP : List P → Option P
  | [.str [c]] => if 97 ≤ c ∧ c ≤ 122 then some (.str [c - 32]) else none
  | _ => none
/-- x is True, x is False -/
def isBP : List P → Option P
  | [.bl a, .bl b] => some (.bl (decide (a = b)))
  | _ => none
def isNotBP : List P → Option P
  | [.bl a, .bl b] => some (.bl (!decide (a = b)))
  | _ => none
end DL

set_option maxRecDepth 100000
set_option maxHeartbeats 1000000
/-! DRep: data in the abstract heap; the worlds and how they grow -/
namespace DL
open PySem PySem.Spec PyProof.Rows L2

def strV (x : List Nat) : Str := ⟨x.toArray⟩
def keyP : P → Option Key
  | .int i => some (.inl i)
  | .str x => some (.inr (strV x))
  | _ => none
def keysP : List P → Option (List Key)
  | [] => some []
  | x :: r => match keyP x, keysP r with
    | some k, some ks => some (k :: ks)
    | _, _ => none
def keyT : P → Option (List Key)
  | .tup xs => keysP xs
  | _ => none
def keysT : List P → Option (List (List Key))
  | [] => some []
  | x :: r => match keyT x, keysT r with
    | some k, some ks => some (k :: ks)
    | _, _ => none
/-- a text that is one: not longer than the line, of signs -/
def okS (x : List Nat) : Prop := x.length ≤ sizeLine ∧ ∀ c ∈ x, c < 1114112
theorem okS_of {x : List Nat} (h : (decide (x.length ≤ 16777216) && x.all fun c => decide (c < 1114112)) = true) : okS x := by
  rw [Bool.and_eq_true] at h
  exact ⟨by rw [sizeLine_eq]; exact of_decide_eq_true h.1, fun c hc => of_decide_eq_true (List.all_eq_true.mp h.2 c hc)⟩
/-- a dict whose keys are data, its values vs -/
def DicO (ks : List P) (vs : List V) (u : HO) : Prop :=
  ks.length = vs.length ∧ ((∃ kk, keysP ks = some kk ∧ u = .dK (kk.zip vs)) ∨ (∃ kk, keysT ks = some kk ∧ u = .dT (kk.zip vs)))

/-- a tuple's object: of pairs it is known -/
def TupO (H : Hp) (a : Addr) (vs : List V) : Bool → Prop
  | true => ∃ o : Obj, H a = some (.frz o (.tup vs)) ∧ o.dict = none
  | false => H a = some (.tup vs)
def TupU (u : HO) : Prop := (∃ xs, u = .tup xs) ∨ ∃ o xs, u = .frz o (.tup xs)
theorem TupO.rd {H : Hp} {a : Addr} {vs : List V} {b : Bool} (h : TupO H a vs b) : Rd H a (.tup vs) := by
  cases b
  · exact .inl h
  · obtain ⟨o, h, _⟩ := h
    exact .inr ⟨o, h⟩
theorem TupO.sq {K : PySem.W.Frag} {H : Hp} {a : Addr} {vs : List V} {b : Bool} (h : TupO H a vs b) : SqT K H a vs := .inl h.rd
theorem TupO.mono {H H' : Hp} {a : Addr} {vs : List V} {b : Bool} (h2 : ∀ a u, TupU u → H a = some u → H' a = some u) (h : TupO H a vs b) : TupO H' a vs b := by
  cases b
  · exact h2 _ _ (.inl ⟨_, rfl⟩) h
  · obtain ⟨o, h, d⟩ := h
    exact ⟨o, h2 _ _ (.inr ⟨_, _, rfl⟩) h, d⟩
/-- a list of the written part -/
def KL (K : PySem.W.Frag) (a : Addr) (xs : List V) : Prop := ∃ (o : Obj) (its : Array Value) (n : Nat), K.lookup a = some o ∧ o.cls = .type "list" ∧ o.dict = none ∧ o.data = .seq its n ∧ its.size ≤ sizeLine ∧ Vals xs its.toList
section
variable (K : PySem.W.Frag) (H : Hp) (pr : Addr → Prop)
mutual
def Rep : P → V → Prop
  | .non, v => v = .non
  | .bl b, v => v = .bl b
  | .int i, v => v = .int i
  | .str x, v => v = .str (strV x) ∧ okS x
  | .tup xs, v => ∃ a vs, v = .ref a ∧ TupO H a vs (isPairs xs) ∧ Reps xs vs
  | .lst xs, v => ∃ a vs, v = .ref a ∧ ¬ pr a ∧ H a = some (.lst vs) ∧ Reps xs vs
  | .scr xs, v => ∃ a vs, v = .ref a ∧ ((¬ pr a ∧ Rd H a (.lst vs)) ∨ KL K a vs) ∧ Reps xs vs
  | .dic ks xs, v => ∃ a vs u, v = .ref a ∧ ¬ pr a ∧ Rd H a u ∧ DicO ks vs u ∧ Reps xs vs
def Reps : List P → List V → Prop
  | [], vs => vs = []
  | x :: r, vs => ∃ v s, vs = v :: s ∧ Rep x v ∧ Reps r s
end
/-- the same, but for the object itself -/
def RepT : P → V → Prop
  | .lst xs, v => ∃ a vs, v = .ref a ∧ H a = some (.lst vs) ∧ Reps K H pr xs vs
  | .dic ks xs, v => ∃ a vs u, v = .ref a ∧ Rd H a u ∧ DicO ks vs u ∧ Reps K H pr xs vs
  | x, v => Rep K H pr x v
def RepTs : List P → List V → Prop
  | [], vs => vs = []
  | x :: r, vs => ∃ v s, vs = v :: s ∧ RepT K H pr x v ∧ RepTs r s
end
section
variable {K : PySem.W.Frag} {H H' : Hp} {pr pr' : Addr → Prop}
theorem rd_of (h1 : ∀ a o, ¬ pr a → H a = some o → H' a = some o ∧ ¬ pr' a) {a : Addr} {u : HO} (n : ¬ pr a) (r : Rd H a u) : Rd H' a u ∧ ¬ pr' a := by
  rcases r with r | ⟨o, r⟩
  · exact ⟨.inl (h1 a _ n r).1, (h1 a _ n r).2⟩
  · exact ⟨.inr ⟨o, (h1 a _ n r).1⟩, (h1 a _ n r).2⟩
mutual
theorem Rep.mono (h1 : ∀ a o, ¬ pr a → H a = some o → H' a = some o ∧ ¬ pr' a) (h2 : ∀ a u, TupU u → H a = some u → H' a = some u) : ∀ (x : P) (v : V), Rep K H pr x v → Rep K H' pr' x v
  | .non, _, h => h
  | .bl _, _, h => h
  | .int _, _, h => h
  | .str _, _, h => h
  | .tup xs, v, h => by
    unfold Rep at h ⊢
    obtain ⟨a, vs, e, q, r⟩ := h
    exact ⟨a, vs, e, q.mono h2, Reps.mono h1 h2 xs vs r⟩
  | .lst xs, v, h => by
    unfold Rep at h ⊢
    obtain ⟨a, vs, e, n, q, r⟩ := h
    exact ⟨a, vs, e, (h1 a _ n q).2, (h1 a _ n q).1, Reps.mono h1 h2 xs vs r⟩
  | .scr xs, v, h => by
    unfold Rep at h ⊢
    obtain ⟨a, vs, e, q, r⟩ := h
    refine ⟨a, vs, e, ?_, Reps.mono h1 h2 xs vs r⟩
    rcases q with ⟨n, q⟩ | q
    · exact .inl ⟨(rd_of h1 n q).2, (rd_of h1 n q).1⟩
    · exact .inr q
  | .dic ks xs, v, h => by
    unfold Rep at h ⊢
    obtain ⟨a, vs, u, e, n, q, d, r⟩ := h
    exact ⟨a, vs, u, e, (rd_of h1 n q).2, (rd_of h1 n q).1, d, Reps.mono h1 h2 xs vs r⟩
theorem Reps.mono (h1 : ∀ a o, ¬ pr a → H a = some o → H' a = some o ∧ ¬ pr' a) (h2 : ∀ a u, TupU u → H a = some u → H' a = some u) : ∀ (xs : List P) (vs : List V), Reps K H pr xs vs → Reps K H' pr' xs vs
  | [], _, h => h
  | x :: r, vs, h => by
    unfold Reps at h ⊢
    obtain ⟨v, s, e, a, b⟩ := h
    exact ⟨v, s, e, Rep.mono h1 h2 x v a, Reps.mono h1 h2 r s b⟩
end
theorem Rep.top : ∀ {x : P} {v : V}, Rep K H pr x v → RepT K H pr x v
  | .non, _, h => h
  | .bl _, _, h => h
  | .int _, _, h => h
  | .str _, _, h => h
  | .tup _, _, h => h
  | .scr _, _, h => h
  | .lst xs, v, h => by
    unfold Rep at h
    obtain ⟨a, vs, e, n, q, r⟩ := h
    exact ⟨a, vs, e, q, r⟩
  | .dic ks xs, v, h => by
    unfold Rep at h
    obtain ⟨a, vs, u, e, n, q, d, r⟩ := h
    exact ⟨a, vs, u, e, q, d, r⟩
theorem Reps.nil_iff {vs : List V} : Reps K H pr [] vs ↔ vs = [] := by unfold Reps; exact Iff.rfl
theorem Reps.cons_iff {x : P} {r : List P} {vs : List V} : Reps K H pr (x :: r) vs ↔ ∃ v s, vs = v :: s ∧ Rep K H pr x v ∧ Reps K H pr r s := by
  constructor
  · intro h
    unfold Reps at h
    exact h
  · intro h
    unfold Reps
    exact h
theorem Reps.len : ∀ {xs : List P} {vs : List V}, Reps K H pr xs vs → xs.length = vs.length
  | [], vs, h => by rw [Reps.nil_iff] at h; subst h; rfl
  | x :: r, vs, h => by
    rw [Reps.cons_iff] at h
    obtain ⟨v, s, rfl, _, q⟩ := h
    simp [Reps.len q]
theorem Reps.get : ∀ {xs : List P} {vs : List V} {i : Nat} {x : P}, Reps K H pr xs vs → xs[i]? = some x → ∃ v, vs[i]? = some v ∧ Rep K H pr x v
  | [], _, i, x, _, e => by simp at e
  | y :: r, vs, 0, x, h, e => by
    rw [Reps.cons_iff] at h
    obtain ⟨v, s, rfl, a, q⟩ := h
    simp at e
    subst e
    exact ⟨v, rfl, a⟩
  | y :: r, vs, i + 1, x, h, e => by
    rw [Reps.cons_iff] at h
    obtain ⟨v, s, rfl, a, q⟩ := h
    simp only [List.getElem?_cons_succ] at e ⊢
    exact Reps.get q e
theorem Reps.append : ∀ {xs ys : List P} {vs ws : List V}, Reps K H pr xs vs → Reps K H pr ys ws → Reps K H pr (xs ++ ys) (vs ++ ws)
  | [], ys, vs, ws, h, g => by rw [Reps.nil_iff] at h; subst h; exact g
  | x :: r, ys, vs, ws, h, g => by
    rw [Reps.cons_iff] at h
    obtain ⟨v, s, rfl, a, q⟩ := h
    rw [List.cons_append, Reps.cons_iff]
    exact ⟨v, s ++ ws, rfl, a, Reps.append q g⟩
theorem Reps.one {x : P} {v : V} (h : Rep K H pr x v) : Reps K H pr [x] [v] := Reps.cons_iff.mpr ⟨v, [], rfl, h, Reps.nil_iff.mpr rfl⟩
theorem Reps.drop : ∀ {xs : List P} {vs : List V} (n : Nat), Reps K H pr xs vs → Reps K H pr (xs.drop n) (vs.drop n)
  | _, _, 0, h => h
  | [], vs, n + 1, h => by rw [Reps.nil_iff] at h; subst h; exact Reps.nil_iff.mpr rfl
  | x :: r, vs, n + 1, h => by
    rw [Reps.cons_iff] at h
    obtain ⟨v, s, rfl, a, q⟩ := h
    exact Reps.drop n q
theorem Reps.take : ∀ {xs : List P} {vs : List V} (n : Nat), Reps K H pr xs vs → Reps K H pr (xs.take n) (vs.take n)
  | _, _, 0, h => Reps.nil_iff.mpr rfl
  | [], vs, n + 1, h => by rw [Reps.nil_iff] at h; subst h; exact Reps.nil_iff.mpr rfl
  | x :: r, vs, n + 1, h => by
    rw [Reps.cons_iff] at h
    obtain ⟨v, s, rfl, a, q⟩ := h
    exact Reps.cons_iff.mpr ⟨v, s.take n, rfl, a, Reps.take n q⟩
theorem Reps.set {y : P} {w : V} (hy : Rep K H pr y w) : ∀ {xs : List P} {vs : List V} (n : Nat), Reps K H pr xs vs → Reps K H pr (xs.set n y) (vs.set n w)
  | [], vs, n, h => by rw [Reps.nil_iff] at h; subst h; exact Reps.nil_iff.mpr rfl
  | x :: r, vs, 0, h => by
    rw [Reps.cons_iff] at h
    obtain ⟨v, s, rfl, a, q⟩ := h
    exact Reps.cons_iff.mpr ⟨w, s, rfl, hy, q⟩
  | x :: r, vs, n + 1, h => by
    rw [Reps.cons_iff] at h
    obtain ⟨v, s, rfl, a, q⟩ := h
    exact Reps.cons_iff.mpr ⟨v, s.set n w, rfl, a, Reps.set hy n q⟩
theorem Reps.reverse : ∀ {xs : List P} {vs : List V}, Reps K H pr xs vs → Reps K H pr xs.reverse vs.reverse
  | [], vs, h => by rw [Reps.nil_iff] at h; subst h; exact Reps.nil_iff.mpr rfl
  | x :: r, vs, h => by
    rw [Reps.cons_iff] at h
    obtain ⟨v, s, rfl, a, q⟩ := h
    rw [List.reverse_cons, List.reverse_cons]
    exact Reps.append (Reps.reverse q) (Reps.one a)
theorem Reps.eraseIdx : ∀ {xs : List P} {vs : List V} (n : Nat), Reps K H pr xs vs → Reps K H pr (xs.eraseIdx n) (vs.eraseIdx n)
  | [], vs, n, h => by rw [Reps.nil_iff] at h; subst h; exact Reps.nil_iff.mpr rfl
  | x :: r, vs, 0, h => by
    rw [Reps.cons_iff] at h
    obtain ⟨v, s, rfl, a, q⟩ := h
    exact q
  | x :: r, vs, n + 1, h => by
    rw [Reps.cons_iff] at h
    obtain ⟨v, s, rfl, a, q⟩ := h
    exact Reps.cons_iff.mpr ⟨v, s.eraseIdx n, rfl, a, Reps.eraseIdx n q⟩
theorem RepTs.nil_iff {vs : List V} : RepTs K H pr [] vs ↔ vs = [] := Iff.rfl
theorem RepTs.cons_iff {x : P} {r : List P} {vs : List V} : RepTs K H pr (x :: r) vs ↔ ∃ v s, vs = v :: s ∧ RepT K H pr x v ∧ RepTs K H pr r s := Iff.rfl
end

/-! ### worlds -/
/-- where the objects of the store stand (none: given up); B: what must not be spoken of besides -/
abbrev Mp := List (Option Addr)
def Pr (m : Mp) (B : Addr → Prop) (a : Addr) : Prop := some a ∈ m ∨ B a
structure Ext (m : Mp) (H : Hp) (m' : Mp) (H' : Hp) : Prop where
  len : m.length ≤ m'.length
  keep : ∀ (i : Nat) (x : Option Addr), m[i]? = some x → m'[i]? = some x ∨ m'[i]? = some none
  obj : ∀ a o, some a ∉ m → H a = some o → H' a = some o ∧ some a ∉ m'
  tup : ∀ a u, TupU u → H a = some u → H' a = some u
  dom : ∀ a, H a ≠ none → H' a ≠ none
theorem Ext.refl {m : Mp} {H : Hp} : Ext m H m H := ⟨Nat.le_refl _, fun _ _ e => .inl e, fun _ _ n e => ⟨e, n⟩, fun _ _ _ e => e, fun _ e => e⟩
theorem Ext.trans {m m1 m2 : Mp} {H H1 H2 : Hp} (a : Ext m H m1 H1) (b : Ext m1 H1 m2 H2) : Ext m H m2 H2 where
  len := Nat.le_trans a.len b.len
  keep := fun i x e => by
    rcases a.keep i x e with h | h
    · exact b.keep i x h
    · rcases b.keep i none h with h | h
      · exact .inr h
      · exact .inr h
  obj := fun c o n e => by
    obtain ⟨e1, n1⟩ := a.obj c o n e
    exact b.obj c o n1 e1
  tup := fun c u t e => b.tup c u t (a.tup c u t e)
  dom := fun c e => b.dom c (a.dom c e)
/-- all that was tracked is there as it was -/
theorem Ext.same {m : Mp} {H H' : Hp} (s : Same H H') : Ext m H m H' :=
  ⟨Nat.le_refl _, fun _ _ e => .inl e, fun _ _ n e => ⟨s _ _ e, n⟩, fun _ _ _ e => s _ _ e, fun a e => by
    cases q : H a with
    | none => exact absurd q e
    | some o => rw [s _ _ q]; exact fun z => nomatch z⟩

/-- the exception that is handled: where, its class's number, its fields' names, its dict -/
structure Hand where
  a : Addr
  c : Nat
  names : List Str
  d : Option Addr
structure Kx where
  k : PySem.W.Frag
  hd : Option Hand
instance : CoeOut Kx PySem.W.Frag := ⟨Kx.k⟩
/-- an exception's fields -/
def XF (K : PySem.W.Frag) (H : Hp) (pr : Addr → Prop) (names : List Str) (fs : List P) (dd : Option Addr) : Prop :=
  names = [] ∧ fs = [] ∧ dd = none ∨ ∃ d fv, dd = some d ∧ H d = some (.xd fv) ∧ ¬ pr d ∧ fv.map (·.1) = names ∧ Reps K H pr fs (fv.map (·.2))
theorem XF.mono {K : PySem.W.Frag} {H H' : Hp} {pr pr' : Addr → Prop} (h1 : ∀ a o, ¬ pr a → H a = some o → H' a = some o ∧ ¬ pr' a) (h2 : ∀ a u, TupU u → H a = some u → H' a = some u) {names : List Str} {fs : List P} {dd : Option Addr} (h : XF K H pr names fs dd) : XF K H' pr' names fs dd :=
  h.elim .inl fun ⟨d, fv, e1, e2, e3, e4, e5⟩ => .inr ⟨d, fv, e1, (h1 d _ e3 e2).1, (h1 d _ e3 e2).2, e4, e5.mono h1 h2⟩
theorem XF.less {K : PySem.W.Frag} {H : Hp} {pr pr' : Addr → Prop} (i : ∀ a, pr' a → pr a) {names : List Str} {fs : List P} {dd : Option Addr} (h : XF K H pr names fs dd) : XF K H pr' names fs dd := h.mono (fun a u n r => ⟨r, fun z => n (i a z)⟩) fun _ _ _ e => e
def RepD (K : Kx) (H : Hp) (m : Mp) (B : Addr → Prop) : D → V → Prop
  | .p x, v => Rep K H (Pr m B) x v
  | .ref l, v => match m[l]? with
    | some (some a) => v = .ref a
    | some none => True
    | none => False
  | .exc c fs, v => ∃ h : Hand, K.hd = some h ∧ v = .ref h.a ∧ c = h.c ∧ XF K.k H (Pr m B) h.names fs h.d
def RepDs (K : Kx) (H : Hp) (m : Mp) (B : Addr → Prop) : List D → List V → Prop
  | [], vs => vs = []
  | d :: r, vs => ∃ v s, vs = v :: s ∧ RepD K H m B d v ∧ RepDs K H m B r s
def RepO (K : Kx) (H : Hp) (m : Mp) (B : Addr → Prop) (a : Addr) : O → Prop
  | .lst xs => ∃ vs, H a = some (.lst vs) ∧ Reps K H (Pr m B) xs vs
  | .dic kvs => ∃ vs u, H a = some u ∧ DicO (kvs.map (·.1)) vs u ∧ Reps K H (Pr m B) (kvs.map (·.2)) vs
  | .dir kvs => ∃ vs u, H a = some u ∧ DicO (kvs.map (·.1)) vs u ∧ RepDs K H m B (kvs.map fun p => .ref p.2) vs
  | .dead => False
structure RelS (K : Kx) (m : Mp) (B : Addr → Prop) (S : Store) (H : Hp) : Prop where
  len : m.length = S.length
  inj : ∀ (i j : Nat) (a : Addr), m[i]? = some (some a) → m[j]? = some (some a) → i = j
  ob : ∀ (i : Nat) (a : Addr), m[i]? = some (some a) → ∃ o, S[i]? = some o ∧ RepO K H m B a o
  dead : ∀ i : Nat, m[i]? = some none → S[i]? = some .dead
  bd : ∀ a, B a → H a ≠ none ∧ some a ∉ m
structure RelE (K : Kx) (m : Mp) (B : Addr → Prop) (e : Env) (σ : L2.St) (H : Hp) : Prop where
  len : e.length = σ.length
  at_ : ∀ (i : Nat) (d : D), e[i]? = some (some d) → ∃ v, σ[i]? = some (some v) ∧ RepD K H m B d v
section
variable {K : Kx} {H H' : Hp} {m m' : Mp} {B : Addr → Prop} {S : Store}
theorem RelS.live (r : RelS K m B S H) {a : Addr} (h : some a ∈ m) : H a ≠ none := by
  obtain ⟨i, e⟩ := List.mem_iff_getElem?.mp h
  obtain ⟨o, _, q⟩ := r.ob i a e
  cases o with
  | lst xs => obtain ⟨vs, e, _⟩ := q; rw [e]; exact fun z => nomatch z
  | dic kvs => obtain ⟨vs, u, e, _⟩ := q; rw [e]; exact fun z => nomatch z
  | dir kvs => obtain ⟨vs, u, e, _⟩ := q; rw [e]; exact fun z => nomatch z
  | dead => exact q.elim
theorem RelS.pr (r : RelS K m B S H) {a : Addr} (h : Pr m B a) : H a ≠ none := by
  rcases h with h | h
  · exact r.live h
  · exact (r.bd a h).1
theorem Ext.rd (x : Ext m H m' H') {a : Addr} {u : HO} (n : some a ∉ m) (h : Rd H a u) : Rd H' a u := by
  rcases h with h | ⟨o, h⟩
  · exact .inl (x.obj a _ n h).1
  · exact .inr ⟨o, (x.obj a _ n h).1⟩
theorem Rd.ne {a : Addr} {u : HO} (h : Rd H a u) : H a ≠ none := by
  rcases h with h | ⟨o, h⟩ <;> rw [h] <;> exact fun z => nomatch z
theorem Ext.off (x : Ext m H m' H') {a : Addr} (n : some a ∉ m) (h : H a ≠ none) : some a ∉ m' := by
  cases q : H a with
  | none => exact absurd q h
  | some o => exact (x.obj a o n q).2
theorem Ext.rep (x : Ext m H m' H') {y : P} {v : V} (h : Rep K H (Pr m B) y v) : Rep K H' (Pr m' B) y v :=
  h.mono (fun a u n r => ⟨(x.obj a u (fun z => n (.inl z)) r).1, fun z => by
    rcases z with z | z
    · exact (x.obj a u (fun z => n (.inl z)) r).2 z
    · exact n (.inr z)⟩) x.tup
theorem Ext.reps (x : Ext m H m' H') {ys : List P} {vs : List V} (h : Reps K H (Pr m B) ys vs) : Reps K H' (Pr m' B) ys vs :=
  h.mono (fun a u n r => ⟨(x.obj a u (fun z => n (.inl z)) r).1, fun z => by
    rcases z with z | z
    · exact (x.obj a u (fun z => n (.inl z)) r).2 z
    · exact n (.inr z)⟩) x.tup
theorem Ext.xf {K : PySem.W.Frag} (x : Ext m H m' H') {names : List Str} {fs : List P} {dd : Option Addr} (h : XF K H (Pr m B) names fs dd) : XF K H' (Pr m' B) names fs dd :=
  h.mono (fun a u n r => ⟨(x.obj a u (fun z => n (.inl z)) r).1, fun z => z.elim (x.obj a u (fun z => n (.inl z)) r).2 fun z => n (.inr z)⟩) x.tup
theorem Ext.repD (x : Ext m H m' H') : ∀ {d : D} {v : V}, RepD K H m B d v → RepD K H' m' B d v
  | .p y, v, h => x.rep h
  | .ref l, v, h => by
    dsimp only [RepD] at h ⊢
    cases e : m[l]? with
    | none => rw [e] at h; exact h.elim
    | some y =>
      rw [e] at h
      rcases x.keep l y e with q | q
      · rw [q]
        exact h
      · rw [q]
        trivial
  | .exc _ _, _, ⟨h, e1, e2, e3, e4⟩ => ⟨h, e1, e2, e3, x.xf e4⟩
theorem Ext.repDs (x : Ext m H m' H') : ∀ {ds : List D} {vs : List V}, RepDs K H m B ds vs → RepDs K H' m' B ds vs
  | [], _, h => h
  | d :: r, vs, h => by
    obtain ⟨v, s, e, a, b⟩ := h
    exact ⟨v, s, e, x.repD a, x.repDs b⟩
theorem Ext.relE (x : Ext m H m' H') {e : Env} {σ : L2.St} (h : RelE K m B e σ H) : RelE K m' B e σ H' := ⟨h.len, fun i d q => by
  obtain ⟨v, q1, q2⟩ := h.at_ i d q
  exact ⟨v, q1, x.repD q2⟩⟩
theorem RelS.same (r : RelS K m B S H) (s : Same H H') : RelS K m B S H' where
  len := r.len
  inj := r.inj
  ob := fun i a e => by
    obtain ⟨o, q, h⟩ := r.ob i a e
    refine ⟨o, q, ?_⟩
    have x : Ext m H m H' := Ext.same s
    cases o with
    | lst xs =>
      obtain ⟨vs, e, h⟩ := h
      exact ⟨vs, s _ _ e, x.reps h⟩
    | dic kvs =>
      obtain ⟨vs, u, e, d, h⟩ := h
      exact ⟨vs, u, s _ _ e, d, x.reps h⟩
    | dir kvs =>
      obtain ⟨vs, u, e, d, h⟩ := h
      exact ⟨vs, u, s _ _ e, d, x.repDs h⟩
    | dead => exact h.elim
  dead := r.dead
  bd := fun a h => ⟨(Ext.same (m := m) s).dom a (r.bd a h).1, (r.bd a h).2⟩
theorem RelE.set {e : Env} {σ : L2.St} {d : D} {v : V} (h : RelE K m B e σ H) (r : RepD K H m B d v) (i : Nat) : RelE K m B (e.set i (some d)) (σ.set i (some v)) H := ⟨by simp [h.len], fun j d' q => by
  by_cases hj : i = j
  · subst hj
    by_cases hl : i < e.length
    · rw [List.getElem?_set_self hl] at q
      cases q
      exact ⟨v, by rw [List.getElem?_set_self (by rw [← h.len]; exact hl)], r⟩
    · rw [List.getElem?_eq_none (by simpa using Nat.le_of_not_lt hl)] at q
      cases q
  · rw [List.getElem?_set_ne hj] at q ⊢
    exact h.at_ j d' q⟩
theorem RelE.clear {e : Env} {σ : L2.St} (h : RelE K m B e σ H) (i : Nat) : RelE K m B (e.set i none) (σ.set i none) H := ⟨by simp [h.len], fun j d' q => by
  by_cases hj : i = j
  · subst hj
    by_cases hl : i < e.length
    · rw [List.getElem?_set_self hl] at q
      cases q
    · rw [List.getElem?_eq_none (by simpa using Nat.le_of_not_lt hl)] at q
      cases q
  · rw [List.getElem?_set_ne hj] at q ⊢
    exact h.at_ j d' q⟩
theorem RelE.wipe {e : Env} {σ : L2.St} (h : RelE K m B e σ H) : ∀ vs : List Nat, RelE K m B (wipeD e vs) (L2.wipe σ vs) H
  | [] => h
  | v :: vs => (RelE.wipe h vs).clear v
theorem RepD.top {d : D} {v : V} {x : P} (rs : RelS K m B S H) (h : RepD K H m B d v) (e : val S d = some x) : RepT K H (Pr m B) x v := by
  cases d with
  | p y =>
    cases e
    exact Rep.top h
  | exc c fs => cases e
  | ref l =>
    dsimp only [RepD] at h
    cases q : m[l]? with
    | none => rw [q] at h; exact h.elim
    | some o =>
      rw [q] at h
      cases o with
      | none =>
        have z := rs.dead l q
        simp [val, z, oval] at e
      | some a =>
        subst h
        obtain ⟨o, q1, q2⟩ := rs.ob l a q
        simp only [val, q1, Option.bind_some] at e
        cases o with
        | lst xs =>
          cases e
          obtain ⟨vs, e1, r⟩ := q2
          exact ⟨a, vs, rfl, e1, r⟩
        | dic kvs =>
          cases e
          obtain ⟨vs, u, e1, d, r⟩ := q2
          exact ⟨a, vs, u, rfl, .inl e1, d, r⟩
        | dir kvs => cases e
        | dead => cases e
theorem RepDs.top (rs : RelS K m B S H) : ∀ {ds : List D} {vs : List V} {xs : List P}, RepDs K H m B ds vs → vals S ds = some xs → RepTs K H (Pr m B) xs vs
  | [], vs, xs, h, e => by
    cases e
    exact h
  | d :: r, vs, xs, h, e => by
    obtain ⟨v, s, rfl, a, b⟩ := h
    unfold vals at e
    cases e1 : val S d with
    | none => rw [e1] at e; cases e
    | some x =>
      cases e2 : vals S r with
      | none => rw [e1, e2] at e; cases e
      | some ys =>
        rw [e1, e2] at e
        cases e
        exact ⟨v, s, rfl, a.top rs e1, RepDs.top rs b e2⟩
theorem RepDs.len : ∀ {ds : List D} {vs : List V}, RepDs K H m B ds vs → ds.length = vs.length
  | [], _, h => by rw [show _ = [] from h]; rfl
  | d :: r, vs, h => by
    obtain ⟨v, s, rfl, a, b⟩ := h
    simp [b.len]
end
end DL

set_option maxRecDepth 100000
set_option maxHeartbeats 1000000
/-! DJ: the judgements, and the rules of expressions -/
namespace DL
open PySem PySem.Spec PyProof.Rows L2

theorem R.bind_assoc {α β γ : Type} (r : R α) (f : α → Store → R β) (g : β → Store → R γ) : (r.bind f).bind g = r.bind fun a S => (f a S).bind g := by
  cases r <;> rfl

/-- the classes of exceptions: where, the names of the fields -/
structure Cls_ where
  tab : Nat → Option (Addr × List Str)
  hd : Option Hand
abbrev kx (X : Cx) (cl : Cls_) : Kx := ⟨X.K, cl.hd⟩
/-- an exception as it flies -/
def XR (K : PySem.W.Frag) (cl : Cls_) (H : Hp) (m : Mp) (B : Addr → Prop) (c : Nat) (fs : List P) (cls : Value) (dd : Option Addr) : Prop :=
  ∃ C names, cl.tab c = some (C, names) ∧ cls = .ref C ∧ XF K H (Pr m B) names fs dd

abbrev Rp (α β : Type) := Hp → Mp → (Addr → Prop) → α → β → Prop
section
variable (K : Kx) (cl : Cls_) (W : WX)
def EndG {α β : Type} (rep : Rp α β) (m : Mp) (B : Addr → Prop) (σ : L2.St) (H : Hp) (r : R α) (Q : β → Hp → Prop) : Prop :=
  match r with
  | .ok a S' => ∀ m' H' b, Ext m H m' H' → RelS K m' B S' H' → rep H' m' B a b → Q b H'
  | .ex c fs S' => ∀ m' H' cls dd, Ext m H m' H' → RelS K m' B S' H' → XR K cl H' m' B c fs cls dd → W cls dd σ H'
  | .no => False
def tG {α β : Type} (rep : Rp α β) (f : Env → Store → R α) : L2.St → Hp → (β → Hp → Prop) → Prop := fun σ H Q =>
  ∃ m B e S, RelS K m B S H ∧ RelE K m B e σ H ∧ EndG K cl W rep m B σ H (f e S) Q
end
def rD (K : Kx) : Rp D V := fun H m B d v => RepD K H m B d v
def rDs (K : Kx) : Rp (List D) (List V) := fun H m B d v => RepDs K H m B d v
def rB : Rp Bool Bool := fun _ _ _ a b => a = b
def testD (r : R D) : R Bool := r.bind fun d S => match trueD d with
  | some b => .ok b S
  | none => .no
def DE (X : Cx) (cl : Cls_) (W : WX) (e : Expr) (f : Env → Store → R D) : Prop := PE X e (tG (kx X cl) cl W (rD (kx X cl)) f)
def DA (X : Cx) (cl : Cls_) (W : WX) (es : List Expr) (f : Env → Store → R (List D)) : Prop := PA X es (tG (kx X cl) cl W (rDs (kx X cl)) f)
def DT (X : Cx) (cl : Cls_) (W : WX) (e : Expr) (f : Env → Store → R D) : Prop := PT X e (tG (kx X cl) cl W rB fun e S => testD (f e S))
def DW (X : Cx) (cl : Cls_) (W : WX) (e : Expr) (f : Env → Store → R D) : Prop := PW X e (tG (kx X cl) cl W rB fun e S => testD (f e S))

theorem PE.imp {X : Cx} {e : Expr} {t t' : TE} (h : PE X e t) (i : ∀ σ H Q, t' σ H Q → t σ H Q) : PE X e t' := ⟨fun pins s σ H Q I q => h.run pins s σ H Q I (i σ H Q q)⟩
theorem PT.imp {X : Cx} {e : Expr} {t t' : TT} (h : PT X e t) (i : ∀ σ H Q, t' σ H Q → t σ H Q) : PT X e t' := ⟨fun pins s σ H Q I q => h.run pins s σ H Q I (i σ H Q q)⟩
theorem PW.imp {X : Cx} {e : Expr} {t t' : TT} (h : PW X e t) (i : ∀ σ H Q, t' σ H Q → t σ H Q) : PW X e t' := ⟨fun wh pins s σ H Q I q => h.run wh pins s σ H Q I (i σ H Q q)⟩
theorem PA.imp {X : Cx} {es : List Expr} {t t' : TA} (h : PA X es t) (i : ∀ σ H Q, t' σ H Q → t σ H Q) : PA X es t' := ⟨fun pos pins s σ H Q I q => h.run pos pins s σ H Q I (i σ H Q q)⟩

section
variable {K : Kx} {cl : Cls_} {W : WX} {α β γ δ : Type} {rep : Rp α β} {rep2 : Rp γ δ} {m m1 : Mp} {B : Addr → Prop} {σ : L2.St} {H H1 : Hp} {S : Store} {e : Env}
theorem EndG.ext {r : R α} {Q : β → Hp → Prop} (x : Ext m H m1 H1) (h : EndG K cl W rep m B σ H r Q) : EndG K cl W rep m1 B σ H1 r Q := by
  cases r with
  | ok a S => exact fun m' H' b x' rs rp => h m' H' b (x.trans x') rs rp
  | ex c fs S => exact fun m' H' cls dd x' rs xr => h m' H' cls dd (x.trans x') rs xr
  | no => exact h
theorem EndG.here {a : α} {b : β} {Q : β → Hp → Prop} (h : EndG K cl W rep m B σ H (.ok a S) Q) (rs : RelS K m B S H) (rp : rep H m B a b) : Q b H := h m H b .refl rs rp
theorem tG_bind {f : Env → Store → R α} {k : α → Store → R γ} {Q : δ → Hp → Prop} {Q1 : β → Hp → Prop} (hS : RelS K m B S H) (hE : RelE K m B e σ H) (h : EndG K cl W rep2 m B σ H ((f e S).bind k) Q)
    (next : ∀ a S1 m1 H1 b, Ext m H m1 H1 → RelS K m1 B S1 H1 → RelE K m1 B e σ H1 → rep H1 m1 B a b → EndG K cl W rep2 m1 B σ H1 (k a S1) Q → f e S = .ok a S1 → Q1 b H1) : tG K cl W rep f σ H Q1 := by
  refine ⟨m, B, e, S, hS, hE, ?_⟩
  cases q : f e S with
  | ok a S1 =>
    rw [q] at h
    exact fun m' H' b x rs rp => next a S1 m' H' b x rs (x.relE hE) rp (EndG.ext x h) q
  | ex c fs S1 =>
    rw [q] at h
    exact h
  | no =>
    rw [q] at h
    exact h.elim
theorem tG_mono {f : Env → Store → R α} {Q Q1 : β → Hp → Prop} (h : tG K cl W rep f σ H Q) (i : ∀ b H', Q b H' → Q1 b H') : tG K cl W rep f σ H Q1 := by
  obtain ⟨m, B, e, S, hS, hE, h⟩ := h
  refine ⟨m, B, e, S, hS, hE, ?_⟩
  cases q : f e S with
  | ok a S1 =>
    rw [q] at h
    exact fun m' H' b x rs rp => i _ _ (h m' H' b x rs rp)
  | ex c fs S1 =>
    rw [q] at h
    exact h
  | no =>
    rw [q] at h
    exact h
end

/-- a rule by values says what f says -/
def OpV (K : PySem.W.Frag) (r : List V → Hp → VK → Prop) (f : List P → Option P) : Prop :=
  ∀ (H : Hp) (pr : Addr → Prop) (xs : List P) (vs : List V) (y : P) (Q : VK), (∀ a, pr a → H a ≠ none) → RepTs K H pr xs vs → f xs = some y → (∀ H' v, Same H H' → Rep K H' pr y v → Q v H') → r vs H Q
def rOf2 (r : R2) : List V → Hp → VK → Prop := fun vs H Q => ∀ x y, vs = [x, y] → r x y H Q
def rOf1 (r : V → Hp → VK → Prop) : List V → Hp → VK → Prop := fun vs H Q => ∀ x, vs = [x] → r x H Q
theorem OpV.two {K : PySem.W.Frag} {r : R2} {f : List P → Option P} (h : ∀ (H : Hp) (pr : Addr → Prop) (x y : P) (v w : V) (z : P) (Q : VK), (∀ a, pr a → H a ≠ none) → RepT K H pr x v → RepT K H pr y w → f [x, y] = some z → (∀ H' u, Same H H' → Rep K H' pr z u → Q u H') → r v w H Q)
    (h2 : ∀ xs z, f xs = some z → ∃ x y, xs = [x, y]) : OpV K (rOf2 r) f := by
  intro H pr xs vs y Q hp hr hf hq v w e
  obtain ⟨a, b, rfl⟩ := h2 xs y hf
  obtain ⟨v1, s1, e1, r1, v2, s2, e2, r2, e3⟩ := hr
  subst e
  cases e1
  cases e2
  exact h H pr a b _ _ y Q hp r1 r2 hf hq
theorem OpV.one {K : PySem.W.Frag} {r : V → Hp → VK → Prop} {f : List P → Option P} (h : ∀ (H : Hp) (pr : Addr → Prop) (x : P) (v : V) (z : P) (Q : VK), (∀ a, pr a → H a ≠ none) → RepT K H pr x v → f [x] = some z → (∀ H' u, Same H H' → Rep K H' pr z u → Q u H') → r v H Q)
    (h2 : ∀ xs z, f xs = some z → ∃ x, xs = [x]) : OpV K (rOf1 r) f := by
  intro H pr xs vs y Q hp hr hf hq v e
  obtain ⟨a, rfl⟩ := h2 xs y hf
  obtain ⟨v1, s1, e1, r1, e3⟩ := hr
  subst e
  cases e1
  exact h H pr a _ y Q hp r1 hf hq

section
variable {X : Cx} {cl : Cls_} {W : WX} {rn : Rn} {pos : Pos}
def opK (f : List P → Option P) (ds : List D) (S : Store) : R D := match vals S ds with
    | some xs => (match f xs with
      | some y => .ok (.p y) S
      | none => .no)
    | none => .no
theorem op_fin {K : Kx} {r : List V → Hp → VK → Prop} {f : List P → Option P} {m : Mp} {B : Addr → Prop} {σ : L2.St} {H : Hp} {S : Store} {ds : List D} {vs : List V} {Q : VK} (ho : OpV K r f) (rs : RelS K m B S H) (rd : RepDs K H m B ds vs)
    (h : EndG K cl W (rD K) m B σ H (opK f ds S) Q) : r vs H Q := by
  unfold opK at h
  cases e1 : vals S ds with
  | none => rw [e1] at h; exact h.elim
  | some xs =>
    rw [e1] at h
    dsimp only at h
    cases e2 : f xs with
    | none => rw [e2] at h; exact h.elim
    | some y =>
      rw [e2] at h
      exact ho H (Pr m B) xs vs y Q (fun a p => rs.pr p) (rd.top rs e1) e2 fun H' v s rp => h m H' v (.same s) (rs.same s) rp

/-! ### constants and names -/
theorem de_int {i : Int} {j : Nat} : DE X cl W (.Constant (.int i) j pos) (evE rn (.c (.int i))) := PE.imp pe_int fun σ H Q h => by
  obtain ⟨m, B, e, S, hS, hE, h⟩ := h
  exact EndG.here h hS rfl
theorem de_bl {b : Bool} {j : Nat} : DE X cl W (.Constant (.bool b) j pos) (evE rn (.c (.bl b))) := PE.imp pe_bl fun σ H Q h => by
  obtain ⟨m, B, e, S, hS, hE, h⟩ := h
  exact EndG.here h hS rfl
theorem de_non {j : Nat} : DE X cl W (.Constant .none j pos) (evE rn (.c .non)) := PE.imp pe_non fun σ H Q h => by
  obtain ⟨m, B, e, S, hS, hE, h⟩ := h
  exact EndG.here h hS rfl
theorem de_str {x : List Nat} {j : Nat} {s : Str} (hs : s = strV x) (hl : okS x) : DE X cl W (.Constant (.str s) j pos) (evE rn (.c (.str x))) := PE.imp pe_str fun σ H Q h => by
  obtain ⟨m, B, e, S, hS, hE, h⟩ := h
  exact EndG.here h hS ⟨by rw [hs], hl⟩
theorem de_var (i : Nat) {x : Str} (hN : X.N[i]? = some x) (hv : Vis X.env.scope x) (hd : (x == ("__debug__" : Str)) = false) (hcd : (x == ("__classdict__" : Str)) = false) : DE X cl W (.Name x pos) (evE rn (.v i)) :=
  PE.imp (pe_var hN hv hd hcd) fun σ H Q h => by
    obtain ⟨m, B, e, S, hS, hE, h⟩ := h
    simp only [evE] at h
    cases q : e[i]? with
    | none => rw [q] at h; exact h.elim
    | some o =>
      cases o with
      | none => rw [q] at h; exact h.elim
      | some d =>
        rw [q] at h
        obtain ⟨v, q1, q2⟩ := hE.at_ i d q
        exact ⟨v, q1, EndG.here h hS q2⟩
/-- a module's constant -/
theorem de_glob {x : Str} {v : V} {u : Value} {y : P} (hg : Gl X x) (hm : X.mg x = some u) (r : RelV v u) (rp : ∀ H pr, Rep X.K H pr y v) (hd : (x == ("__debug__" : Str)) = false) : DE X cl W (.Name x pos) (evE rn (.c y)) :=
  PE.imp (pe_glob hg hm r hd) fun σ H Q h => by
    obtain ⟨m, B, e, S, hS, hE, h⟩ := h
    exact EndG.here h hS (rp _ _)

/-! ### argument lists -/
theorem da_nil : DA X cl W [] (evEs rn .nil) := PA.imp pa_nil fun σ H Q h => by
  obtain ⟨m, B, e, S, hS, hE, h⟩ := h
  exact EndG.here h hS rfl
theorem da_cons {a : Expr} {es : List Expr} {i : IE} {is : IEs} (ha : DE X cl W a (evE rn i)) (hr : DA X cl W es (evEs rn is)) (hs : starEach (a :: es) X.env = (false, eval a X.env) :: starEach es X.env) : DA X cl W (a :: es) (evEs rn (.cons i is)) :=
  PA.imp (pa_cons ha hr hs) fun σ H Q h => by
    obtain ⟨m, B, e, S, hS, hE, h⟩ := h
    simp only [evEs] at h
    refine tG_bind hS hE h fun d S1 m1 H1 v x1 hS1 hE1 r1 h1 eq1 => ?_
    refine tG_bind hS1 hE1 h1 fun ds S2 m2 H2 vs x2 hS2 hE2 r2 h2 eq2 => ?_
    exact EndG.here h2 hS2 ⟨v, vs, rfl, x2.repD r1, r2⟩

/-! ### operators -/
theorem ev_op2 (f : List P → Option P) (i j : IE) (e : Env) (S : Store) : evE rn (.op f (.cons i (.cons j .nil))) e S = (evE rn i e S).bind fun d S1 => (evE rn j e S1).bind fun d' S2 => opK f [d, d'] S2 := by
  simp only [evE, evEs, R.bind_assoc, R.bind_ok]
  rfl
theorem ev_op1 (f : List P → Option P) (i : IE) (e : Env) (S : Store) : evE rn (.op f (.cons i .nil)) e S = (evE rn i e S).bind fun d S1 => opK f [d] S1 := by
  simp only [evE, evEs, R.bind_assoc, R.bind_ok]
  rfl
theorem ev_ops (f : List P → Option P) (is : IEs) (e : Env) (S : Store) : evE rn (.op f is) e S = (evEs rn is e S).bind fun ds S1 => opK f ds S1 := by
  simp only [evE]
  rfl
theorem tOp_of {r : R2} {f : List P → Option P} {i j : IE} (ho : OpV X.K (rOf2 r) f) {σ : L2.St} {H : Hp} {Q : VK} (h : tG (kx X cl) cl W (rD (kx X cl)) (evE rn (.op f (.cons i (.cons j .nil)))) σ H Q) :
    tOp r (tG (kx X cl) cl W (rD (kx X cl)) (evE rn i)) (tG (kx X cl) cl W (rD (kx X cl)) (evE rn j)) σ H Q := by
  obtain ⟨m, B, e, S, hS, hE, h⟩ := h
  rw [ev_op2] at h
  refine tG_bind hS hE h fun d S1 m1 H1 v x1 hS1 hE1 r1 h1 eq1 => ?_
  refine tG_bind hS1 hE1 h1 fun d' S2 m2 H2 v' x2 hS2 hE2 r2 h2 eq2 => ?_
  exact op_fin (ds := [d, d']) (vs := [v, v']) ho hS2 ⟨v, [v'], rfl, x2.repD r1, v', [], rfl, r2, rfl⟩ h2 v v' rfl
theorem de_bin {op : Operator} {r : R2} {f : List P → Option P} {a b : Expr} {i j : IE} (ho : OpR X (binaryOp op) r) (hv : OpV X.K (rOf2 r) f) (ha : DE X cl W a (evE rn i)) (hb : DE X cl W b (evE rn j)) :
    DE X cl W (.BinOp a op b pos) (evE rn (.op f (.cons i (.cons j .nil)))) := PE.imp (pe_op ho ha hb) fun _ _ _ h => tOp_of hv h
theorem de_un {op : UnaryOp} {r : V → Hp → VK → Prop} {f : List P → Option P} {a : Expr} {i : IE} (ho : UnR X (unaryOp op) r) (hv : OpV X.K (rOf1 r) f) (ha : DE X cl W a (evE rn i)) :
    DE X cl W (.UnaryOp op a pos) (evE rn (.op f (.cons i .nil))) := PE.imp (pe_un ho ha) fun σ H Q h => by
  obtain ⟨m, B, e, S, hS, hE, h⟩ := h
  rw [ev_op1] at h
  refine tG_bind hS hE h fun d S1 m1 H1 v x1 hS1 hE1 r1 h1 eq1 => ?_
  exact op_fin (ds := [d]) (vs := [v]) hv hS1 ⟨v, [], rfl, r1, rfl⟩ h1 v rfl
theorem de_cmp {op : CmpOp} {r : R2} {f : List P → Option P} {a b : Expr} {i j : IE} (ho : OpR X (compareOp op) r) (hv : OpV X.K (rOf2 r) f) (ha : DE X cl W a (evE rn i)) (hb : DE X cl W b (evE rn j)) (hm : behindInMarks op b = false) :
    DE X cl W (.Compare a [op] [b] pos) (evE rn (.op f (.cons i (.cons j .nil)))) := PE.imp (pe_cmpR ho ha hb hm) fun _ _ _ h => tOp_of hv h
theorem de_ix {r : R2} {f : List P → Option P} {a b : Expr} {i j : IE} (ho : IxR X r) (hv : OpV X.K (rOf2 r) f) (ha : DE X cl W a (evE rn i)) (hb : DE X cl W b (evE rn j)) (hs : PlainIx b) :
    DE X cl W (.Subscript a b pos) (evE rn (.op f (.cons i (.cons j .nil)))) := PE.imp (pe_ix ho ha hb hs) fun _ _ _ h => tOp_of hv h
theorem tCB_of {r : List V → Hp → VK → Prop} {f : List P → Option P} {is : IEs} (ho : OpV X.K r f) {σ : L2.St} {H : Hp} {Q : VK} (h : tG (kx X cl) cl W (rD (kx X cl)) (evE rn (.op f is)) σ H Q) : tCB r (tG (kx X cl) cl W (rDs (kx X cl)) (evEs rn is)) σ H Q := by
  obtain ⟨m, B, e, S, hS, hE, h⟩ := h
  rw [ev_ops] at h
  refine tG_bind hS hE h fun ds S1 m1 H1 vs x1 hS1 hE1 r1 h1 eq1 => ?_
  exact op_fin ho hS1 r1 h1
theorem de_callB {x : Str} {p : Pos} {id : String} {r : List V → Hp → VK → Prop} {f : List P → Option P} {a : Expr} {es : List Expr} {is : IEs} (hc : CallR X (.builtin id) r) (hv : OpV X.K r f) (hg : Gl X x) (hm : X.mg x = none) (hb : bootBuiltins x = some (.builtin id))
    (ha : DA X cl W (a :: es) (evEs rn is)) (hn : x ≠ "__name__") (hdb : (x == ("__debug__" : Str)) = false) (he : starEach (a :: es) X.env = (false, eval a X.env) :: starEach es X.env) (hpl : (backTo pos (starEach es X.env)).any (·.1) = false) :
    DE X cl W (.Call (.Name x p) (a :: es) [] pos) (evE rn (.op f is)) := PE.imp (pe_callB hc hg hm hb ha hn hdb he hpl) fun _ _ _ h => tCB_of hv h
theorem de_callTy {x : Str} {p : Pos} {T : String} {r : List V → Hp → VK → Prop} {f : List P → Option P} {a : Expr} {es : List Expr} {is : IEs} (hc : CallR X (.type T) r) (hv : OpV X.K r f) (hg : Gl X x) (hm : X.mg x = none) (hb : bootBuiltins x = some (.type T))
    (ha : DA X cl W (a :: es) (evEs rn is)) (hn : x ≠ "__name__") (hdb : (x == ("__debug__" : Str)) = false) (he : starEach (a :: es) X.env = (false, eval a X.env) :: starEach es X.env) (hpl : (backTo pos (starEach es X.env)).any (·.1) = false) :
    DE X cl W (.Call (.Name x p) (a :: es) [] pos) (evE rn (.op f is)) := PE.imp (pe_callTy hc hg hm hb ha hn hdb he hpl) fun _ _ _ h => tCB_of hv h
end
end DL

set_option maxRecDepth 100000
set_option maxHeartbeats 1000000
/-! DJ2: tests, displays, new objects, methods, calls -/
namespace DL
open PySem PySem.Spec PyProof.Rows L2

section
variable {X : Cx} {cl : Cls_} {W : WX} {rn : Rn} {pos : Pos}
/-! ### tests -/
theorem test_of {K : Kx} {f : Env → Store → R D} {σ : L2.St} {H : Hp} {Q : Bool → Hp → Prop} (h : tG K cl W rB (fun e S => testD (f e S)) σ H Q) : tG K cl W (rD K) f σ H fun x H' => ∃ k, x = .bl k ∧ Q k H' := by
  obtain ⟨m, B, e, S, hS, hE, h⟩ := h
  refine tG_bind hS hE (show EndG K cl W rB m B σ H ((f e S).bind _) Q from h) fun d S1 m1 H1 v x1 hS1 hE1 r1 h1 eq1 => ?_
  cases d with
  | p y =>
    cases y with
    | bl b => exact ⟨b, r1, EndG.here h1 hS1 rfl⟩
    | non => exact h1.elim
    | int i => exact h1.elim
    | str z => exact h1.elim
    | tup z => exact h1.elim
    | lst z => exact h1.elim
    | scr z => exact h1.elim
    | dic y z => exact h1.elim
  | ref l => exact h1.elim
  | exc c fs => exact h1.elim
theorem dt_val {a : Expr} {f : Env → Store → R D} (h : DE X cl W a f) (he : ∀ whole, isTrue a X.env whole = (do let v ← whole; standAt a.pos; holding [v] (truthy v))) : DT X cl W a f :=
  PT.imp (pt_val h he) fun σ H Q h => test_of h
theorem dt_cmp {op : CmpOp} {r : R2} {f : List P → Option P} {a b : Expr} {i j : IE} (ho : OpR X (compareOp op) r) (hv : OpV X.K (rOf2 r) f) (ha : DE X cl W a (evE rn i)) (hb : DE X cl W b (evE rn j)) (hm : behindInMarks op b = false) :
    DT X cl W (.Compare a [op] [b] pos) (evE rn (.op f (.cons i (.cons j .nil)))) := PT.imp (pt_cmpR ho ha hb hm) fun σ H Q h => tOp_of hv (test_of h)

theorem test_and (i j : IE) (e : Env) (S : Store) : testD (evE rn (.and_ i j) e S) = (testD (evE rn i e S)).bind fun c S1 => if c then testD (evE rn j e S1) else .ok false S1 := by
  simp only [evE, testD]
  cases evE rn i e S with
  | ok d S1 =>
    simp only [R.bind_ok]
    cases trueD d with
    | none => rfl
    | some b => cases b <;> rfl
  | ex c fs S1 => rfl
  | no => rfl
theorem test_or (i j : IE) (e : Env) (S : Store) : testD (evE rn (.or_ i j) e S) = (testD (evE rn i e S)).bind fun c S1 => if c then .ok true S1 else testD (evE rn j e S1) := by
  simp only [evE, testD]
  cases evE rn i e S with
  | ok d S1 =>
    simp only [R.bind_ok]
    cases trueD d with
    | none => rfl
    | some b => cases b <;> rfl
  | ex c fs S1 => rfl
  | no => rfl
theorem dw_and1 {a : Expr} {f : Env → Store → R D} (h : DT X cl W a f) : DW X cl W (.BoolOp .And [a] pos) f := pw_and1 h
theorem dw_or1 {a : Expr} {f : Env → Store → R D} (h : DT X cl W a f) : DW X cl W (.BoolOp .Or [a] pos) f := pw_or1 h
theorem DW.t {a : Expr} {f : Env → Store → R D} (h : DW X cl W a f) : DT X cl W a f := PW.pt h
theorem dw_and {a b : Expr} {rest : List Expr} {i j : IE} (ha : DT X cl W a (evE rn i)) (hb : DW X cl W (.BoolOp .And (b :: rest) pos) (evE rn j)) : DW X cl W (.BoolOp .And (a :: b :: rest) pos) (evE rn (.and_ i j)) :=
  PW.imp (pw_and ha hb) fun σ H Q h => by
    obtain ⟨m, B, e, S, hS, hE, h⟩ := h
    dsimp only at h
    rw [test_and] at h
    refine tG_bind hS hE h fun c S1 m1 H1 b x1 hS1 hE1 r1 h1 eq1 => ?_
    cases r1
    cases c with
    | true => exact ⟨m1, B, e, S1, hS1, hE1, h1⟩
    | false => exact EndG.here h1 hS1 rfl
theorem dw_or {a b : Expr} {rest : List Expr} {i j : IE} (ha : DT X cl W a (evE rn i)) (hb : DW X cl W (.BoolOp .Or (b :: rest) pos) (evE rn j)) : DW X cl W (.BoolOp .Or (a :: b :: rest) pos) (evE rn (.or_ i j)) :=
  PW.imp (pw_or ha hb) fun σ H Q h => by
    obtain ⟨m, B, e, S, hS, hE, h⟩ := h
    dsimp only at h
    rw [test_or] at h
    refine tG_bind hS hE h fun c S1 m1 H1 b x1 hS1 hE1 r1 h1 eq1 => ?_
    cases r1
    cases c with
    | true => exact EndG.here h1 hS1 rfl
    | false => exact ⟨m1, B, e, S1, hS1, hE1, h1⟩
theorem test_not (i : IE) (e : Env) (S : Store) : testD (evE rn (.not_ i) e S) = (testD (evE rn i e S)).bind fun c S1 => .ok (!c) S1 := by
  simp only [evE, testD]
  cases evE rn i e S with
  | ok d S1 =>
    simp only [R.bind_ok]
    cases trueD d <;> rfl
  | ex c fs S1 => rfl
  | no => rfl
theorem dt_not {a : Expr} {i : IE} (ha : DT X cl W a (evE rn i)) : DT X cl W (.UnaryOp .Not a pos) (evE rn (.not_ i)) :=
  PT.imp (pt_not ha) fun σ H Q h => by
    obtain ⟨m, B, e, S, hS, hE, h⟩ := h
    dsimp only at h
    rw [test_not] at h
    refine tG_bind hS hE h fun c S1 m1 H1 b x1 hS1 hE1 r1 h1 eq1 => ?_
    cases r1
    exact EndG.here h1 hS1 rfl
/-! ### .. as values -/
theorem isbl {K : Kx} {m m' : Mp} {B : Addr → Prop} {σ : L2.St} {H : Hp} {d : D} {v : V} {α β : Type} {rep : Rp α β} {Q : β → Hp → Prop} {k : Bool → R α} (r : rD K H m B d v)
    (h : EndG K cl W rep m' B σ H (match trueD d with | some b => k b | none => .no) Q) : ∃ b, v = .bl b ∧ EndG K cl W rep m' B σ H (k b) Q := by
  cases d with
  | p y =>
    cases y with
    | bl b => exact ⟨b, r, h⟩
    | _ => exact h.elim
  | ref l => exact h.elim
  | exc c fs => exact h.elim
theorem de_one {op : BoolOp} {a : Expr} {f : Env → Store → R D} (h : DE X cl W a f) : DE X cl W (.BoolOp op [a] pos) f := pe_one h
theorem ev_and (i j : IE) (e : Env) (S : Store) : evE rn (.and_ i j) e S = (evE rn i e S).bind fun d S1 => match trueD d with | some b => (if b then evE rn j e S1 else .ok (.p (.bl false)) S1) | none => .no := by
  simp only [evE]
  cases evE rn i e S with
  | ok d S1 =>
    simp only [R.bind_ok]
    cases trueD d with
    | none => rfl
    | some b => cases b <;> rfl
  | ex c fs S1 => rfl
  | no => rfl
theorem ev_or (i j : IE) (e : Env) (S : Store) : evE rn (.or_ i j) e S = (evE rn i e S).bind fun d S1 => match trueD d with | some b => (if b then .ok (.p (.bl true)) S1 else evE rn j e S1) | none => .no := by
  simp only [evE]
  cases evE rn i e S with
  | ok d S1 =>
    simp only [R.bind_ok]
    cases trueD d with
    | none => rfl
    | some b => cases b <;> rfl
  | ex c fs S1 => rfl
  | no => rfl
theorem ev_ite (t i j : IE) (e : Env) (S : Store) : evE rn (.ite t i j) e S = (testD (evE rn t e S)).bind fun c S1 => if c then evE rn i e S1 else evE rn j e S1 := by
  simp only [evE, testD]
  cases evE rn t e S with
  | ok d S1 =>
    simp only [R.bind_ok]
    cases trueD d with
    | none => rfl
    | some b => cases b <;> rfl
  | ex c fs S1 => rfl
  | no => rfl
theorem de_and {a b : Expr} {rest : List Expr} {i j : IE} (ha : DE X cl W a (evE rn i)) (hb : DE X cl W (.BoolOp .And (b :: rest) pos) (evE rn j)) : DE X cl W (.BoolOp .And (a :: b :: rest) pos) (evE rn (.and_ i j)) :=
  PE.imp (pe_and ha hb) fun σ H Q h => by
    obtain ⟨m, B, e, S, hS, hE, h⟩ := h
    rw [ev_and] at h
    refine tG_bind hS hE h fun d S1 m1 H1 v x1 hS1 hE1 r1 h1 eq1 => ?_
    obtain ⟨c, rfl, h1⟩ := isbl r1 h1
    refine ⟨c, rfl, ?_⟩
    cases c with
    | true => exact ⟨m1, B, e, S1, hS1, hE1, h1⟩
    | false => exact EndG.here h1 hS1 rfl
theorem de_or {a b : Expr} {rest : List Expr} {i j : IE} (ha : DE X cl W a (evE rn i)) (hb : DE X cl W (.BoolOp .Or (b :: rest) pos) (evE rn j)) : DE X cl W (.BoolOp .Or (a :: b :: rest) pos) (evE rn (.or_ i j)) :=
  PE.imp (pe_or ha hb) fun σ H Q h => by
    obtain ⟨m, B, e, S, hS, hE, h⟩ := h
    rw [ev_or] at h
    refine tG_bind hS hE h fun d S1 m1 H1 v x1 hS1 hE1 r1 h1 eq1 => ?_
    obtain ⟨c, rfl, h1⟩ := isbl r1 h1
    refine ⟨c, rfl, ?_⟩
    cases c with
    | true => exact EndG.here h1 hS1 rfl
    | false => exact ⟨m1, B, e, S1, hS1, hE1, h1⟩
theorem de_not {a : Expr} {i : IE} (ha : DE X cl W a (evE rn i)) : DE X cl W (.UnaryOp .Not a pos) (evE rn (.not_ i)) :=
  PE.imp (pe_not ha) fun σ H Q h => by
    obtain ⟨m, B, e, S, hS, hE, h⟩ := h
    simp only [evE] at h
    refine tG_bind hS hE h fun d S1 m1 H1 v x1 hS1 hE1 r1 h1 eq1 => ?_
    obtain ⟨c, rfl, h1⟩ := isbl (rep := rD (kx X cl)) (k := fun b => R.ok (D.p (P.bl (!b))) S1) r1 h1
    exact ⟨c, rfl, EndG.here h1 hS1 rfl⟩
theorem de_ite {c a b : Expr} {t i j : IE} (hc : DT X cl W c (evE rn t)) (ha : DE X cl W a (evE rn i)) (hb : DE X cl W b (evE rn j)) : DE X cl W (.IfExp c a b pos) (evE rn (.ite t i j)) :=
  PE.imp (pe_ifExp hc ha hb) fun σ H Q h => by
    obtain ⟨m, B, e, S, hS, hE, h⟩ := h
    rw [ev_ite] at h
    refine tG_bind hS hE h fun d S1 m1 H1 v x1 hS1 hE1 r1 h1 eq1 => ?_
    cases r1
    cases d with
    | true => exact ⟨m1, B, e, S1, hS1, hE1, h1⟩
    | false => exact ⟨m1, B, e, S1, hS1, hE1, h1⟩

/-! ### data alone -/
theorem RepDs.pure {K : Kx} {H : Hp} {m : Mp} {B : Addr → Prop} : ∀ {ds : List D} {vs : List V} {xs : List P}, RepDs K H m B ds vs → pures ds = some xs → Reps K H (Pr m B) xs vs
  | [], vs, xs, h, e => by
    cases e
    exact Reps.nil_iff.mpr h
  | .p x :: r, vs, xs, h, e => by
    obtain ⟨v, s, rfl, a, b⟩ := h
    unfold pures at e
    cases q : pures r with
    | none => rw [q] at e; cases e
    | some ys =>
      rw [q] at e
      cases e
      exact Reps.cons_iff.mpr ⟨v, s, rfl, a, RepDs.pure b q⟩
  | .ref l :: r, vs, xs, h, e => by cases e
  | .exc c fs :: r, vs, xs, h, e => by cases e
def pkK (f : List P → Option P) (ds : List D) (S : Store) : R D := match pures ds with
    | some xs => (match f xs with
      | some y => .ok (.p y) S
      | none => .no)
    | none => .no
theorem ev_pk (f : List P → Option P) (is : IEs) (e : Env) (S : Store) : evE rn (.pk f is) e S = (evEs rn is e S).bind fun ds S1 => pkK f ds S1 := by
  simp only [evE]
  rfl
theorem pk_end {K : Kx} {m : Mp} {B : Addr → Prop} {σ : L2.St} {H : Hp} {S : Store} {ds : List D} {vs : List V} {f : List P → Option P} {α : Type} {rep : Rp D α} {Q : α → Hp → Prop} (rd : RepDs K H m B ds vs) (h : EndG K cl W rep m B σ H (pkK f ds S) Q) :
    ∃ xs y, pures ds = some xs ∧ f xs = some y ∧ Reps K H (Pr m B) xs vs ∧ EndG K cl W rep m B σ H (.ok (.p y) S) Q := by
  unfold pkK at h
  cases q : pures ds with
  | none => rw [q] at h; exact h.elim
  | some xs =>
    rw [q] at h
    dsimp only at h
    cases q2 : f xs with
    | none => rw [q2] at h; exact h.elim
    | some y =>
      rw [q2] at h
      exact ⟨xs, y, rfl, q2, rd.pure q, h⟩
theorem Same.new {H : Hp} {p : Addr} {o : HO} (h : H p = none) : Same H (upd H p o) := fun b u e => by
  rw [upd_ne (ne_of_none e h)]
  exact e
def IEs.len : IEs → Nat
  | .nil => 0
  | .cons _ r => r.len + 1
theorem evEs_len : ∀ {is : IEs} {e : Env} {S : Store} {ds : List D} {S1 : Store}, evEs rn is e S = .ok ds S1 → ds.length = is.len
  | .nil, e, S, ds, S1, h => by
    simp only [evEs] at h
    cases h
    rfl
  | .cons i r, e, S, ds, S1, h => by
    simp only [evEs] at h
    cases q : evE rn i e S with
    | ok d S2 =>
      rw [q, R.bind_ok] at h
      cases q2 : evEs rn r e S2 with
      | ok ds' S3 =>
        rw [q2, R.bind_ok] at h
        cases h
        simp [IEs.len, evEs_len q2]
      | ex c fs S3 => rw [q2] at h; cases h
      | no => rw [q2] at h; cases h
    | ex c fs S2 => rw [q] at h; cases h
    | no => rw [q] at h; cases h
theorem de_tup {es : List Expr} {is : IEs} {x1 : Nat} (h : DA X cl W es (evEs rn is)) (hl : is.len ≤ 1000) : DE X cl W (.Tuple es x1 pos) (evE rn (.pk tupP is)) :=
  PE.imp (pe_tup h) fun σ H Q h => by
    obtain ⟨m, B, e, S, hS, hE, h⟩ := h
    rw [ev_pk] at h
    refine tG_bind hS hE h fun ds S1 m1 H1 vs x1 hS1 hE1 r1 h1 eq1 => ⟨Nat.le_trans (by rw [← RepDs.len r1, evEs_len eq1]; exact hl) (Nat.le_of_lt (small1000 (Nat.le_refl _))), fun p np => ?_⟩
    obtain ⟨xs, y, e1, e2, rs, h2⟩ := pk_end r1 h1
    unfold tupP at e2
    split at e2
    · cases e2
    rename_i hnp
    cases e2
    exact h2 m1 _ (.ref p) (.same (Same.new np)) (hS1.same (Same.new np)) ⟨p, vs, rfl, by rw [Bool.eq_false_iff.mpr hnp]; exact upd_same, (Ext.same (Same.new np)).reps rs⟩

/-! ### new objects -/
/-- what an expression tells that is a new list or dict -/
def tF (K : Kx) (cl : Cls_) (W : WX) (f : Env → Store → R D) : TE := fun σ H Q => ∃ m B e S, RelS K m B S H ∧ RelE K m B e σ H ∧
  match f e S with
  | .ok (.p (.lst xs)) S' => ∀ m' H' p vs, Ext m H m' H' → H p = none → RelS K m' (fun a => B a ∨ a = p) S' H' → H' p = some (.lst vs) → Reps K H' (Pr m' fun a => B a ∨ a = p) xs vs → Q (.ref p) H'
  | .ok (.p (.dic ks xs)) S' => ∀ m' H' p vs u, Ext m H m' H' → H p = none → RelS K m' (fun a => B a ∨ a = p) S' H' → H' p = some u → DicO ks vs u → Reps K H' (Pr m' fun a => B a ∨ a = p) xs vs → Q (.ref p) H'
  | r => EndG K cl W (rD K) m B σ H r Q
def FE (X : Cx) (cl : Cls_) (W : WX) (e : Expr) (f : Env → Store → R D) : Prop := PE X e (tF (kx X cl) cl W f)
theorem Rep.less {K : PySem.W.Frag} {H : Hp} {pr pr' : Addr → Prop} (h : ∀ a, pr' a → pr a) {x : P} {v : V} (r : Rep K H pr x v) : Rep K H pr' x v := r.mono (fun a u n r => ⟨r, fun z => n (h a z)⟩) fun _ _ _ e => e
theorem Reps.less {K : PySem.W.Frag} {H : Hp} {pr pr' : Addr → Prop} (h : ∀ a, pr' a → pr a) {xs : List P} {vs : List V} (r : Reps K H pr xs vs) : Reps K H pr' xs vs := r.mono (fun a u n r => ⟨r, fun z => n (h a z)⟩) fun _ _ _ e => e
theorem RepD.less {K : Kx} {H : Hp} {m : Mp} {B B' : Addr → Prop} (h : ∀ a, Pr m B' a → Pr m B a) : ∀ {d : D} {v : V}, RepD K H m B d v → RepD K H m B' d v
  | .p x, v, r => Rep.less h r
  | .ref l, v, r => r
  | .exc _ _, v, ⟨g, e1, e2, e3, e4⟩ => ⟨g, e1, e2, e3, e4.less h⟩
theorem RepDs.less {K : Kx} {H : Hp} {m : Mp} {B B' : Addr → Prop} (h : ∀ a, Pr m B' a → Pr m B a) : ∀ {ds : List D} {vs : List V}, RepDs K H m B ds vs → RepDs K H m B' ds vs
  | [], v, r => r
  | d :: ds, v, r => by
    obtain ⟨v, s, rfl, a, b⟩ := r
    exact ⟨v, s, rfl, RepD.less h a, RepDs.less h b⟩
theorem RelS.less {K : Kx} {H : Hp} {m : Mp} {B B' : Addr → Prop} {S : Store} (h : ∀ a, B' a → B a) (r : RelS K m B S H) : RelS K m B' S H where
  len := r.len
  inj := r.inj
  ob := fun i a e => by
    have hp : ∀ a, Pr m B' a → Pr m B a := fun a z => z.elim .inl fun z => .inr (h a z)
    obtain ⟨o, q, q2⟩ := r.ob i a e
    refine ⟨o, q, ?_⟩
    cases o with
    | lst xs =>
      obtain ⟨vs, e, h⟩ := q2
      exact ⟨vs, e, h.less hp⟩
    | dic kvs =>
      obtain ⟨vs, u, e, d, h⟩ := q2
      exact ⟨vs, u, e, d, h.less hp⟩
    | dir kvs =>
      obtain ⟨vs, u, e, d, h⟩ := q2
      exact ⟨vs, u, e, d, h.less hp⟩
    | dead => exact q2.elim
  dead := r.dead
  bd := fun a z => r.bd a (h a z)
theorem FE.de {a : Expr} {f : Env → Store → R D} (h : FE X cl W a f) : DE X cl W a f := PE.imp h fun σ H Q h => by
  obtain ⟨m, B, e, S, hS, hE, h⟩ := h
  refine ⟨m, B, e, S, hS, hE, ?_⟩
  cases q : f e S with
  | ok d S1 =>
    rw [q] at h
    cases d with
    | p x =>
      cases x with
      | lst xs =>
        intro m' H' p vs x np rs ep rp
        refine h m' H' (.ref p) x (rs.less fun a z => .inl z) ?_
        refine ⟨p, vs, rfl, fun z => ?_, ep, rp.less fun a z => z.elim .inl fun z => .inr (.inl z)⟩
        rcases z with z | z
        · exact (rs.bd p (.inr rfl)).2 z
        · exact (hS.bd p z).1 np
      | dic ks xs =>
        intro m' H' p vs u x np rs ep d rp
        refine h m' H' (.ref p) x (rs.less fun a z => .inl z) ?_
        refine ⟨p, vs, u, rfl, fun z => ?_, .inl ep, d, rp.less fun a z => z.elim .inl fun z => .inr (.inl z)⟩
        rcases z with z | z
        · exact (rs.bd p (.inr rfl)).2 z
        · exact (hS.bd p z).1 np
      | _ => exact h
    | ref l => exact h
    | exc c fs => exact h
  | ex c fs S1 =>
    rw [q] at h
    exact h
  | no =>
    rw [q] at h
    exact h
theorem getE_snoc {α : Type} {l : List α} {x y : α} {i : Nat} (h : (l ++ [x])[i]? = some y) : l[i]? = some y ∨ (i = l.length ∧ y = x) := by
  by_cases hi : i < l.length
  · rw [List.getElem?_append_left hi] at h
    exact .inl h
  · rw [List.getElem?_append_right (Nat.le_of_not_lt hi)] at h
    cases q : i - l.length with
    | zero =>
      rw [q] at h
      simp at h
      exact .inr ⟨by omega, h.symm⟩
    | succ n =>
      rw [q] at h
      simp at h
theorem new_rel {K : Kx} {H : Hp} {m : Mp} {B : Addr → Prop} {S : Store} {p : Addr} {o : O} (hB : ∀ a, B a → a ≠ p) (rs : RelS K m (fun a => B a ∨ a = p) S H) (h : RepO K H (m ++ [some p]) B p o) : RelS K (m ++ [some p]) B (S ++ [o]) H := by
  have np : some p ∉ m := (rs.bd p (.inr rfl)).2
  have hp : ∀ a, Pr (m ++ [some p]) B a → Pr m (fun a => B a ∨ a = p) a := fun a z => by
    rcases z with z | z
    · rcases List.mem_append.mp z with z | z
      · exact .inl z
      · exact .inr (.inr (by simpa using z))
    · exact .inr (.inl z)
  have up : ∀ {d : D} {v : V}, RepD K H m (fun a => B a ∨ a = p) d v → RepD K H (m ++ [some p]) B d v := fun {d v} r => by
    cases d with
    | p x => exact Rep.less hp r
    | ref l =>
      dsimp only [RepD] at r ⊢
      cases q : m[l]? with
      | none => rw [q] at r; exact r.elim
      | some y =>
        rw [q] at r
        rw [List.getElem?_append_left (List.getElem?_eq_some_iff.mp q).1, q]
        exact r
    | exc c fs =>
      obtain ⟨g, e1, e2, e3, e4⟩ := r
      exact ⟨g, e1, e2, e3, e4.less hp⟩
  have ups : ∀ {ds : List D} {vs : List V}, RepDs K H m (fun a => B a ∨ a = p) ds vs → RepDs K H (m ++ [some p]) B ds vs := by
    intro ds
    induction ds with
    | nil => exact fun r => r
    | cons d ds ih =>
      intro vs r
      obtain ⟨v, s, rfl, a, b⟩ := r
      exact ⟨v, s, rfl, up a, ih b⟩
  refine ⟨by simp [rs.len], fun i j a e1 e2 => ?_, fun i a e => ?_, fun i e => ?_, fun a z => ⟨(rs.bd a (.inl z)).1, fun q => ?_⟩⟩
  · rcases getE_snoc e1 with g1 | ⟨g1, f1⟩
    · rcases getE_snoc e2 with g2 | ⟨g2, f2⟩
      · exact rs.inj i j a g1 g2
      · cases f2
        exact absurd (List.mem_of_getElem? g1) np
    · cases f1
      rcases getE_snoc e2 with g2 | ⟨g2, f2⟩
      · exact absurd (List.mem_of_getElem? g2) np
      · rw [g1, g2]
  · rcases getE_snoc e with e | ⟨g, f⟩
    · obtain ⟨o', q, q2⟩ := rs.ob i a e
      refine ⟨o', by rw [List.getElem?_append_left (List.getElem?_eq_some_iff.mp q).1, q], ?_⟩
      cases o' with
      | lst xs =>
        obtain ⟨vs, e, h⟩ := q2
        exact ⟨vs, e, h.less hp⟩
      | dic kvs =>
        obtain ⟨vs, u, e, d, h⟩ := q2
        exact ⟨vs, u, e, d, h.less hp⟩
      | dir kvs =>
        obtain ⟨vs, u, e, d, h⟩ := q2
        exact ⟨vs, u, e, d, ups h⟩
      | dead => exact q2.elim
    · cases f
      exact ⟨o, by rw [g, rs.len]; simp, h⟩
  · rcases getE_snoc e with e | ⟨e, f⟩
    · have q := rs.dead i e
      rw [List.getElem?_append_left (List.getElem?_eq_some_iff.mp q).1, q]
    · cases f
  · rcases List.mem_append.mp q with q | q
    · exact (rs.bd a (.inl z)).2 q
    · exact hB a z (by simpa using q)
theorem new_ext {m m' : Mp} {H H' : Hp} {p : Addr} (x : Ext m H m' H') (np : H p = none) : Ext m H (m' ++ [some p]) H' where
  len := by rw [List.length_append]; exact Nat.le_trans x.len (Nat.le_add_right _ _)
  keep := fun i y e => by
    rcases x.keep i y e with q | q
    · exact .inl (by rw [List.getElem?_append_left (List.getElem?_eq_some_iff.mp q).1, q])
    · exact .inr (by rw [List.getElem?_append_left (List.getElem?_eq_some_iff.mp q).1, q])
  obj := fun a o n e => ⟨(x.obj a o n e).1, fun z => by
    rcases List.mem_append.mp z with z | z
    · exact (x.obj a o n e).2 z
    · have : a = p := by simpa using z
      rw [this, np] at e
      cases e⟩
  tup := x.tup
  dom := x.dom
/-- a new object that the store keeps -/
theorem FE.new {a : Expr} {i : IE} (h : FE X cl W a (evE rn i)) : DE X cl W a (evE rn (.new i)) := PE.imp h fun σ H Q h => by
  obtain ⟨m, B, e, S, hS, hE, h⟩ := h
  simp only [evE] at h
  refine ⟨m, B, e, S, hS, hE, ?_⟩
  cases q : evE rn i e S with
  | ok d S1 =>
    rw [q, R.bind_ok] at h
    have hB : ∀ {p}, H p = none → ∀ a, B a → a ≠ p := fun {p} np a z e => (hS.bd a z).1 (by rw [e]; exact np)
    cases d with
    | p x =>
      cases x with
      | lst xs =>
        intro m' H' p vs x np rs ep rp
        refine h (m' ++ [some p]) H' (.ref p) (new_ext x np) (new_rel (hB np) rs ⟨vs, ep, ?_⟩) ?_
        · refine rp.less fun a z => ?_
          rcases z with z | z
          · rcases List.mem_append.mp z with z | z
            · exact .inl z
            · exact .inr (.inr (by simpa using z))
          · exact .inr (.inl z)
        · show RepD _ _ _ _ (.ref S1.length) _
          dsimp only [RepD]
          rw [← rs.len]
          simp
      | dic ks xs =>
        intro m' H' p vs u x np rs ep d rp
        have l1 : ks.length = xs.length := by rw [rp.len]; exact d.1
        refine h (m' ++ [some p]) H' (.ref p) (new_ext x np) (new_rel (hB np) rs ⟨vs, u, ep, ?_, ?_⟩) ?_
        · rw [List.map_fst_zip (Nat.le_of_eq l1)]
          exact d
        · rw [List.map_snd_zip (Nat.le_of_eq l1.symm)]
          refine rp.less fun a z => ?_
          rcases z with z | z
          · rcases List.mem_append.mp z with z | z
            · exact .inl z
            · exact .inr (.inr (by simpa using z))
          · exact .inr (.inl z)
        · show RepD _ _ _ _ (.ref S1.length) _
          dsimp only [RepD]
          rw [← rs.len]
          simp
      | _ => exact h.elim
    | ref l => exact h.elim
    | exc c fs => exact h.elim
  | ex c fs S1 =>
    rw [q] at h
    exact h
  | no =>
    rw [q] at h
    exact h
end
end DL

set_option maxRecDepth 100000
set_option maxHeartbeats 1000000
/-! DJ3: new lists by values, slices, methods, calls of defs, changes -/
namespace DL
open PySem PySem.Spec PyProof.Rows L2

/-! ### the ends of what is new -/
section
variable (K : Kx) (cl : Cls_) (W : WX)
def EndF (m : Mp) (B : Addr → Prop) (σ : L2.St) (H : Hp) (r : R D) (Q : VK) : Prop :=
  match r with
  | .ok (.p (.lst xs)) S' => ∀ m' H' p vs, Ext m H m' H' → H p = none → RelS K m' (fun a => B a ∨ a = p) S' H' → H' p = some (.lst vs) → Reps K H' (Pr m' fun a => B a ∨ a = p) xs vs → Q (.ref p) H'
  | .ok (.p (.dic ks xs)) S' => ∀ m' H' p vs u, Ext m H m' H' → H p = none → RelS K m' (fun a => B a ∨ a = p) S' H' → H' p = some u → DicO ks vs u → Reps K H' (Pr m' fun a => B a ∨ a = p) xs vs → Q (.ref p) H'
  | r => EndG K cl W (rD K) m B σ H r Q
end
section
variable {K : Kx} {cl : Cls_} {W : WX} {m m1 : Mp} {B : Addr → Prop} {σ : L2.St} {H H1 : Hp} {S : Store} {e : Env}
theorem tF_of {f : Env → Store → R D} {Q : VK} (hS : RelS K m B S H) (hE : RelE K m B e σ H) (h : EndF K cl W m B σ H (f e S) Q) : tF K cl W f σ H Q := ⟨m, B, e, S, hS, hE, h⟩
theorem of_tF {f : Env → Store → R D} {Q : VK} (h : tF K cl W f σ H Q) : ∃ m B e S, RelS K m B S H ∧ RelE K m B e σ H ∧ EndF K cl W m B σ H (f e S) Q := h
theorem none_back (x : Ext m H m1 H1) {p : Addr} (h : H1 p = none) : H p = none := by
  cases q : H p with
  | none => rfl
  | some o => exact absurd h (x.dom p (by rw [q]; exact fun z => nomatch z))
theorem EndF.ext {r : R D} {Q : VK} (x : Ext m H m1 H1) (h : EndF K cl W m B σ H r Q) : EndF K cl W m1 B σ H1 r Q := by
  cases r with
  | ok d S =>
    cases d with
    | p y =>
      cases y with
      | lst xs => exact fun m' H' p vs x' np rs ep rp => h m' H' p vs (x.trans x') (none_back x np) rs ep rp
      | dic ks xs => exact fun m' H' p vs u x' np rs ep d rp => h m' H' p vs u (x.trans x') (none_back x np) rs ep d rp
      | _ => exact fun m' H' b x' rs rp => h m' H' b (x.trans x') rs rp
    | ref l => exact fun m' H' b x' rs rp => h m' H' b (x.trans x') rs rp
    | exc c fs => exact fun m' H' b x' rs rp => h m' H' b (x.trans x') rs rp
  | ex c fs S => exact fun m' H' cls dd x' rs xr => h m' H' cls dd (x.trans x') rs xr
  | no => exact h
theorem tG_bindF {α β : Type} {rep : Rp α β} {f : Env → Store → R α} {k : α → Store → R D} {Q : VK} {Q1 : β → Hp → Prop} (hS : RelS K m B S H) (hE : RelE K m B e σ H) (h : EndF K cl W m B σ H ((f e S).bind k) Q)
    (next : ∀ a S1 m1 H1 b, Ext m H m1 H1 → RelS K m1 B S1 H1 → RelE K m1 B e σ H1 → rep H1 m1 B a b → EndF K cl W m1 B σ H1 (k a S1) Q → f e S = .ok a S1 → Q1 b H1) : tG K cl W rep f σ H Q1 := by
  refine ⟨m, B, e, S, hS, hE, ?_⟩
  cases q : f e S with
  | ok a S1 =>
    rw [q] at h
    exact fun m' H' b x rs rp => next a S1 m' H' b x rs (x.relE hE) rp (EndF.ext x h) q
  | ex c fs S1 =>
    rw [q] at h
    exact h
  | no =>
    rw [q] at h
    exact h.elim
theorem RelS.ban {p : Addr} (r : RelS K m B S H) (np : H p = none) (s : Same H H1) (h1 : H1 p ≠ none) : RelS K m (fun a => B a ∨ a = p) S H1 where
  len := r.len
  inj := r.inj
  ob := fun i a e => by
    obtain ⟨o, q, q2⟩ := r.ob i a e
    have hm : ∀ {y : P} {v : V}, Rep K H (Pr m B) y v → Rep K H1 (Pr m fun a => B a ∨ a = p) y v := fun {y v} h => h.mono (fun a u n rd => ⟨s _ _ rd, fun z => by
      rcases z with z | z | z
      · exact n (.inl z)
      · exact n (.inr z)
      · rw [z, np] at rd
        cases rd⟩) (Ext.same (m := []) s).tup
    have hms : ∀ {y : List P} {v : List V}, Reps K H (Pr m B) y v → Reps K H1 (Pr m fun a => B a ∨ a = p) y v := fun {y v} h => h.mono (fun a u n rd => ⟨s _ _ rd, fun z => by
      rcases z with z | z | z
      · exact n (.inl z)
      · exact n (.inr z)
      · rw [z, np] at rd
        cases rd⟩) (Ext.same (m := []) s).tup
    have hds : ∀ {ds : List D} {vs : List V}, RepDs K H m B ds vs → RepDs K H1 m (fun a => B a ∨ a = p) ds vs := by
      intro ds
      induction ds with
      | nil => exact fun r => r
      | cons d ds ih =>
        intro vs r
        obtain ⟨v, vs', rfl, a, b⟩ := r
        refine ⟨v, vs', rfl, ?_, ih b⟩
        cases d with
        | p x => exact hm a
        | ref l => exact a
        | exc c fs =>
          obtain ⟨g, e1, e2, e3, e4⟩ := a
          exact ⟨g, e1, e2, e3, e4.mono (fun a u n rd => ⟨s _ _ rd, fun z => by
            rcases z with z | z | z
            · exact n (.inl z)
            · exact n (.inr z)
            · rw [z, np] at rd
              cases rd⟩) (Ext.same (m := []) s).tup⟩
    refine ⟨o, q, ?_⟩
    cases o with
    | lst xs =>
      obtain ⟨vs, e, h⟩ := q2
      exact ⟨vs, s _ _ e, hms h⟩
    | dic kvs =>
      obtain ⟨vs, u, e, d, h⟩ := q2
      exact ⟨vs, u, s _ _ e, d, hms h⟩
    | dir kvs =>
      obtain ⟨vs, u, e, d, h⟩ := q2
      exact ⟨vs, u, s _ _ e, d, hds h⟩
    | dead => exact q2.elim
  dead := r.dead
  bd := fun a z => by
    rcases z with z | z
    · exact ⟨(Ext.same (m := []) s).dom a (r.bd a z).1, (r.bd a z).2⟩
    · rw [z]
      exact ⟨h1, fun q => r.live q np⟩
end
/-- what is new: a list, a dict -/
def FrE (K : PySem.W.Frag) (H : Hp) (pr : Addr → Prop) (y : P) (Q : VK) : Prop :=
  match y with
  | .lst xs => ∀ p ws H', H p = none → Same H H' → H' p = some (.lst ws) → Reps K H' (fun a => pr a ∨ a = p) xs ws → Q (.ref p) H'
  | .dic ks xs => ∀ p ws u H', H p = none → Same H H' → H' p = some u → DicO ks ws u → Reps K H' (fun a => pr a ∨ a = p) xs ws → Q (.ref p) H'
  | _ => False
def OpF (K : PySem.W.Frag) (r : List V → Hp → VK → Prop) (f : List P → Option P) : Prop :=
  ∀ (H : Hp) (pr : Addr → Prop) (xs : List P) (vs : List V) (y : P) (Q : VK), (∀ a, pr a → H a ≠ none) → RepTs K H pr xs vs → f xs = some y → FrE K H pr y Q → r vs H Q
theorem Reps.new {K : PySem.W.Frag} {H : Hp} {pr : Addr → Prop} {p : Addr} {o : HO} {xs : List P} {ws : List V} (h : Reps K H pr xs ws) (np : H p = none) : Reps K (upd H p o) (fun a => pr a ∨ a = p) xs ws :=
  h.mono (fun a u n rd => ⟨Same.new np _ _ rd, fun z => z.elim n fun z => by
    rw [z, np] at rd
    cases rd⟩) (Ext.same (m := []) (Same.new np)).tup
theorem FrE.lst {K : PySem.W.Frag} {H : Hp} {pr : Addr → Prop} {xs : List P} {ws : List V} {Q : VK} (h : FrE K H pr (.lst xs) Q) (r : Reps K H pr xs ws) {p : Addr} (np : H p = none) : Q (.ref p) (upd H p (.lst ws)) :=
  h p ws _ np (Same.new np) upd_same (r.new np)
theorem FrE.dic {K : PySem.W.Frag} {H : Hp} {pr : Addr → Prop} {ks xs : List P} {ws : List V} {u : HO} {Q : VK} (h : FrE K H pr (.dic ks xs) Q) (d : DicO ks ws u) (r : Reps K H pr xs ws) {p : Addr} (np : H p = none) : Q (.ref p) (upd H p u) :=
  h p ws u _ np (Same.new np) upd_same d (r.new np)
theorem FrE.of {K : PySem.W.Frag} {H : Hp} {pr : Addr → Prop} {y : P} {Q : VK} (hp : ∀ a, pr a → H a ≠ none) (hy : (∃ xs, y = .lst xs) ∨ (∃ ks xs, y = .dic ks xs)) (h : ∀ H' v, Same H H' → Rep K H' pr y v → Q v H') : FrE K H pr y Q := by
  rcases hy with ⟨xs, rfl⟩ | ⟨ks, xs, rfl⟩
  · intro p ws H' np s ep r
    exact h H' (.ref p) s ⟨p, ws, rfl, fun z => hp p z np, ep, r.less fun a z => .inl z⟩
  · intro p ws u H' np s ep d r
    exact h H' (.ref p) s ⟨p, ws, u, rfl, fun z => hp p z np, .inl ep, d, r.less fun a z => .inl z⟩
theorem OpF.v {K : PySem.W.Frag} {r : List V → Hp → VK → Prop} {f : List P → Option P} (h : OpF K r f) (hy : ∀ xs y, f xs = some y → (∃ xs, y = .lst xs) ∨ (∃ ks xs, y = .dic ks xs)) : OpV K r f := fun H pr xs vs y Q hp hr hf hq => h H pr xs vs y Q hp hr hf (.of hp (hy xs y hf) hq)

section
variable {X : Cx} {cl : Cls_} {W : WX} {rn : Rn} {pos : Pos}
theorem opF_fin {K : Kx} {r : List V → Hp → VK → Prop} {f : List P → Option P} {m : Mp} {B : Addr → Prop} {σ : L2.St} {H : Hp} {S : Store} {ds : List D} {vs : List V} {Q : VK} (ho : OpF K r f) (hy : ∀ xs y, f xs = some y → (∃ xs, y = .lst xs) ∨ (∃ ks xs, y = .dic ks xs)) (rs : RelS K m B S H) (rd : RepDs K H m B ds vs)
    (h : EndF K cl W m B σ H (opK f ds S) Q) : r vs H Q := by
  unfold opK at h
  cases e1 : vals S ds with
  | none => rw [e1] at h; exact h.elim
  | some xs =>
    rw [e1] at h
    dsimp only at h
    cases e2 : f xs with
    | none => rw [e2] at h; exact h.elim
    | some y =>
      rw [e2] at h
      have some_ne : ∀ {H' : Hp} {p : Addr} {u : HO}, H' p = some u → H' p ≠ none := fun e => by rw [e]; exact fun z => nomatch z
      refine ho H (Pr m B) xs vs y Q (fun a p => rs.pr p) (rd.top rs e1) e2 ?_
      rcases hy xs y e2 with ⟨zs, rfl⟩ | ⟨ks, zs, rfl⟩
      · intro p ws H' np s ep rp
        refine h m H' p ws (.same s) np (rs.ban np s (some_ne ep)) ep (rp.less fun a z => ?_)
        rcases z with z | z | z
        · exact .inl (.inl z)
        · exact .inl (.inr z)
        · exact .inr z
      · intro p ws u H' np s ep d rp
        refine h m H' p ws u (.same s) np (rs.ban np s (some_ne ep)) ep d (rp.less fun a z => ?_)
        rcases z with z | z | z
        · exact .inl (.inl z)
        · exact .inl (.inr z)
        · exact .inr z
theorem tOp_ofF {r : R2} {f : List P → Option P} {i j : IE} (ho : OpF X.K (rOf2 r) f) (hy : ∀ xs y, f xs = some y → (∃ xs, y = .lst xs) ∨ (∃ ks xs, y = .dic ks xs)) {σ : L2.St} {H : Hp} {Q : VK} (h : tF (kx X cl) cl W (evE rn (.op f (.cons i (.cons j .nil)))) σ H Q) :
    tOp r (tG (kx X cl) cl W (rD (kx X cl)) (evE rn i)) (tG (kx X cl) cl W (rD (kx X cl)) (evE rn j)) σ H Q := by
  obtain ⟨m, B, e, S, hS, hE, h⟩ := of_tF h
  rw [ev_op2] at h
  refine tG_bindF hS hE h fun d S1 m1 H1 v x1 hS1 hE1 r1 h1 eq1 => ?_
  refine tG_bindF hS1 hE1 h1 fun d' S2 m2 H2 v' x2 hS2 hE2 r2 h2 eq2 => ?_
  exact opF_fin (ds := [d, d']) (vs := [v, v']) ho hy hS2 ⟨v, [v'], rfl, x2.repD r1, v', [], rfl, r2, rfl⟩ h2 v v' rfl
theorem fe_bin {op : Operator} {r : R2} {f : List P → Option P} {a b : Expr} {i j : IE} (ho : OpR X (binaryOp op) r) (hv : OpF X.K (rOf2 r) f) (hy : ∀ xs y, f xs = some y → (∃ xs, y = .lst xs) ∨ (∃ ks xs, y = .dic ks xs)) (ha : DE X cl W a (evE rn i)) (hb : DE X cl W b (evE rn j)) :
    FE X cl W (.BinOp a op b pos) (evE rn (.op f (.cons i (.cons j .nil)))) := PE.imp (pe_op ho ha hb) fun _ _ _ h => tOp_ofF hv hy h
theorem tCB_ofF {r : List V → Hp → VK → Prop} {f : List P → Option P} {is : IEs} (ho : OpF X.K r f) (hy : ∀ xs y, f xs = some y → (∃ xs, y = .lst xs) ∨ (∃ ks xs, y = .dic ks xs)) {σ : L2.St} {H : Hp} {Q : VK} (h : tF (kx X cl) cl W (evE rn (.op f is)) σ H Q) : tCB r (tG (kx X cl) cl W (rDs (kx X cl)) (evEs rn is)) σ H Q := by
  obtain ⟨m, B, e, S, hS, hE, h⟩ := of_tF h
  rw [ev_ops] at h
  refine tG_bindF hS hE h fun ds S1 m1 H1 vs x1 hS1 hE1 r1 h1 eq1 => ?_
  exact opF_fin ho hy hS1 r1 h1
theorem fe_callB {x : Str} {p : Pos} {id : String} {r : List V → Hp → VK → Prop} {f : List P → Option P} {a : Expr} {es : List Expr} {is : IEs} (hc : CallR X (.builtin id) r) (hv : OpF X.K r f) (hy : ∀ xs y, f xs = some y → (∃ xs, y = .lst xs) ∨ (∃ ks xs, y = .dic ks xs)) (hg : Gl X x) (hm : X.mg x = none) (hb : bootBuiltins x = some (.builtin id))
    (ha : DA X cl W (a :: es) (evEs rn is)) (hn : x ≠ "__name__") (hdb : (x == ("__debug__" : Str)) = false) (he : starEach (a :: es) X.env = (false, eval a X.env) :: starEach es X.env) (hpl : (backTo pos (starEach es X.env)).any (·.1) = false) :
    FE X cl W (.Call (.Name x p) (a :: es) [] pos) (evE rn (.op f is)) := PE.imp (pe_callB hc hg hm hb ha hn hdb he hpl) fun _ _ _ h => tCB_ofF hv hy h
theorem fe_callTy {x : Str} {p : Pos} {T : String} {r : List V → Hp → VK → Prop} {f : List P → Option P} {a : Expr} {es : List Expr} {is : IEs} (hc : CallR X (.type T) r) (hv : OpF X.K r f) (hy : ∀ xs y, f xs = some y → (∃ xs, y = .lst xs) ∨ (∃ ks xs, y = .dic ks xs)) (hg : Gl X x) (hm : X.mg x = none) (hb : bootBuiltins x = some (.type T))
    (ha : DA X cl W (a :: es) (evEs rn is)) (hn : x ≠ "__name__") (hdb : (x == ("__debug__" : Str)) = false) (he : starEach (a :: es) X.env = (false, eval a X.env) :: starEach es X.env) (hpl : (backTo pos (starEach es X.env)).any (·.1) = false) :
    FE X cl W (.Call (.Name x p) (a :: es) [] pos) (evE rn (.op f is)) := PE.imp (pe_callTy hc hg hm hb ha hn hdb he hpl) fun _ _ _ h => tCB_ofF hv hy h
theorem fe_lst {es : List Expr} {is : IEs} (h : DA X cl W es (evEs rn is)) (hl : is.len ≤ 1000) : FE X cl W (.List es pos) (evE rn (.pk lstP is)) :=
  PE.imp (pe_lst h) fun σ H Q h => by
    obtain ⟨m, B, e, S, hS, hE, h⟩ := of_tF h
    rw [ev_pk] at h
    refine tG_bindF hS hE h fun ds S1 m1 H1 vs x1 hS1 hE1 r1 h1 eq1 => ⟨Nat.le_trans (by rw [← RepDs.len r1, evEs_len eq1]; exact hl) (Nat.le_of_lt (small1000 (Nat.le_refl _))), fun p np => ?_⟩
    unfold pkK at h1
    cases q : pures ds with
    | none => rw [q] at h1; exact h1.elim
    | some xs =>
      rw [q] at h1
      refine h1 m1 _ p vs (.same (Same.new np)) np (hS1.ban np (Same.new np) (by rw [upd_same]; exact fun z => nomatch z)) upd_same (((RepDs.pure r1 q).new np).less fun a z => ?_)
      rcases z with z | z | z
      · exact .inl (.inl z)
      · exact .inl (.inr z)
      · exact .inr z

/-! ### slices -/
def partO : P → Option (Option Int)
  | .non => some none
  | .int i => some (some i)
  | _ => none
def rPart : Rp D (Option Int) := fun _ _ _ d o => match d with
  | .p x => partO x = some o
  | _ => False
def DO (X : Cx) (cl : Cls_) (W : WX) (e : Option Expr) (f : Env → Store → R D) : Prop := PO X e (tG (kx X cl) cl W rPart f)
theorem PO.imp {X : Cx} {e : Option Expr} {t t' : TO} (h : PO X e t) (i : ∀ σ H Q, t' σ H Q → t σ H Q) : PO X e t' := ⟨fun pins s σ H Q I q => h.run pins s σ H Q I (i σ H Q q)⟩
theorem do_none : DO X cl W none (evE rn (.c .non)) := PO.imp po_none fun σ H Q h => by
  obtain ⟨m, B, e, S, hS, hE, h⟩ := h
  exact EndG.here h hS rfl
theorem do_some {a : Expr} {i : IE} (ha : DE X cl W a (evE rn i)) : DO X cl W (some a) (evE rn (.part i)) := PO.imp (po_some ha) fun σ H Q h => by
  obtain ⟨m, B, e, S, hS, hE, h⟩ := h
  simp only [evE] at h
  refine tG_bind hS hE h fun d S1 m1 H1 v x1 hS1 hE1 r1 h1 eq1 => ?_
  cases d with
  | p x =>
    cases x with
    | int i => exact ⟨i, r1, EndG.here h1 hS1 rfl⟩
    | _ => exact h1.elim
  | ref l => exact h1.elim
  | exc c fs => exact h1.elim
def rSl (r : V → Option Int → Option Int → Hp → VK → Prop) (lo hi : Option Int) : List V → Hp → VK → Prop := fun vs H Q => ∀ x, vs = [x] → r x lo hi H Q
/-- x[lo:hi] by values -/
def OpS (K : PySem.W.Frag) (r : V → Option Int → Option Int → Hp → VK → Prop) (f : List P → Option P) : Prop :=
  ∀ (H : Hp) (pr : Addr → Prop) (x l h : P) (v : V) (lo hi : Option Int) (y : P) (Q : VK), (∀ a, pr a → H a ≠ none) → RepT K H pr x v → partO l = some lo → partO h = some hi → f [x, l, h] = some y → (∀ H' v, Same H H' → Rep K H' pr y v → Q v H') → r v lo hi H Q
def OpSF (K : PySem.W.Frag) (r : V → Option Int → Option Int → Hp → VK → Prop) (f : List P → Option P) : Prop :=
  ∀ (H : Hp) (pr : Addr → Prop) (x l h : P) (v : V) (lo hi : Option Int) (y : P) (Q : VK), (∀ a, pr a → H a ≠ none) → RepT K H pr x v → partO l = some lo → partO h = some hi → f [x, l, h] = some y → FrE K H pr y Q → r v lo hi H Q
theorem ev_op3 (f : List P → Option P) (i j k : IE) (e : Env) (S : Store) : evE rn (.op f (.cons i (.cons j (.cons k .nil)))) e S = (evE rn i e S).bind fun d S1 => (evE rn j e S1).bind fun d' S2 => (evE rn k e S2).bind fun d2 S3 => opK f [d, d', d2] S3 := by
  simp only [evE, evEs, R.bind_assoc, R.bind_ok]
  rfl
theorem rPart_p {H : Hp} {m : Mp} {B : Addr → Prop} {d : D} {o : Option Int} (h : rPart H m B d o) : ∃ x, d = .p x ∧ partO x = some o := by
  cases d with
  | p x => exact ⟨x, rfl, h⟩
  | _ => exact h.elim
theorem vals3 {S : Store} {d : D} {x y z : P} (h : val S d = some x) : vals S [d, .p y, .p z] = some [x, y, z] := by
  unfold vals
  rw [h]
  rfl
theorem vals3n {S : Store} {d : D} {y z : P} (h : val S d = none) : vals S [d, .p y, .p z] = none := by
  unfold vals
  rw [h]
theorem de_slice {r : V → Option Int → Option Int → Hp → VK → Prop} {f : List P → Option P} {a : Expr} {lo hi : Option Expr} {i j k : IE} {p2 : Pos} (hr : SlR X r) (hv : OpS X.K r f) (ha : DE X cl W a (evE rn i)) (hl : DO X cl W lo (evE rn j)) (hh : DO X cl W hi (evE rn k)) :
    DE X cl W (.Subscript a (.Slice lo hi none p2) pos) (evE rn (.op f (.cons i (.cons j (.cons k .nil))))) := PE.imp (pe_slice hr ha hl hh) fun σ H Q h => by
  obtain ⟨m, B, e, S, hS, hE, h⟩ := h
  rw [ev_op3] at h
  refine tG_bind hS hE h fun d S1 m1 H1 v x1 hS1 hE1 r1 h1 eq1 => ?_
  refine tG_bind hS1 hE1 h1 fun d2 S2 m2 H2 o2 x2 hS2 hE2 r2 h2 eq2 => ?_
  refine tG_bind hS2 hE2 h2 fun d3 S3 m3 H3 o3 x3 hS3 hE3 r3 h3 eq3 => ?_
  obtain ⟨y2, rfl, p2⟩ := rPart_p r2
  obtain ⟨y3, rfl, p3⟩ := rPart_p r3
  unfold opK at h3
  cases q : val S3 d with
  | none => rw [vals3n q] at h3; exact h3.elim
  | some x =>
    rw [vals3 q] at h3
    dsimp only at h3
    cases q2 : f [x, y2, y3] with
    | none => rw [q2] at h3; exact h3.elim
    | some y =>
      rw [q2] at h3
      exact hv H3 (Pr m3 B) x y2 y3 v o2 o3 y Q (fun a p => hS3.pr p) (((x2.trans x3).repD r1).top hS3 q) p2 p3 q2 fun H' v s rp => h3 m3 H' v (.same s) (hS3.same s) rp
theorem fe_slice {r : V → Option Int → Option Int → Hp → VK → Prop} {f : List P → Option P} {a : Expr} {lo hi : Option Expr} {i j k : IE} {p2 : Pos} (hr : SlR X r) (hv : OpSF X.K r f) (hy : ∀ xs y, f xs = some y → ∃ xs, y = .lst xs) (ha : DE X cl W a (evE rn i)) (hl : DO X cl W lo (evE rn j)) (hh : DO X cl W hi (evE rn k)) :
    FE X cl W (.Subscript a (.Slice lo hi none p2) pos) (evE rn (.op f (.cons i (.cons j (.cons k .nil))))) := PE.imp (pe_slice hr ha hl hh) fun σ H Q h => by
  obtain ⟨m, B, e, S, hS, hE, h⟩ := of_tF h
  rw [ev_op3] at h
  refine tG_bindF hS hE h fun d S1 m1 H1 v x1 hS1 hE1 r1 h1 eq1 => ?_
  refine tG_bindF hS1 hE1 h1 fun d2 S2 m2 H2 o2 x2 hS2 hE2 r2 h2 eq2 => ?_
  refine tG_bindF hS2 hE2 h2 fun d3 S3 m3 H3 o3 x3 hS3 hE3 r3 h3 eq3 => ?_
  obtain ⟨y2, rfl, p2⟩ := rPart_p r2
  obtain ⟨y3, rfl, p3⟩ := rPart_p r3
  unfold opK at h3
  cases q : val S3 d with
  | none => rw [vals3n q] at h3; exact h3.elim
  | some x =>
    rw [vals3 q] at h3
    dsimp only at h3
    cases q2 : f [x, y2, y3] with
    | none => rw [q2] at h3; exact h3.elim
    | some y =>
      rw [q2] at h3
      refine hv H3 (Pr m3 B) x y2 y3 v o2 o3 y Q (fun a p => hS3.pr p) (((x2.trans x3).repD r1).top hS3 q) p2 p3 q2 ?_
      obtain ⟨zs, rfl⟩ := hy _ _ q2
      intro p ws H' np s ep rp
      refine h3 m3 H' p ws (.same s) np (hS3.ban np s (by rw [ep]; exact fun z => nomatch z)) ep (rp.less fun a z => ?_)
      rcases z with z | z | z
      · exact .inl (.inl z)
      · exact .inl (.inr z)
      · exact .inr z

/-! ### methods of built-in types -/
def rOfM (r : V → List V → Hp → VK → Prop) : List V → Hp → VK → Prop := fun vs H Q => ∀ x xs, vs = x :: xs → r x xs H Q
theorem tyV_top {K : PySem.W.Frag} {H : Hp} {pr : Addr → Prop} {x : P} {v : V} {T : String} (r : RepT K H pr x v) (h : isTy T x = true) (hd : ∀ ks xs, x = .dic ks xs → ∀ a o u, v = .ref a → H a ≠ some (.frz o u)) : tyV K T v H := by
  cases x with
  | str z =>
    obtain ⟨e, _⟩ := r
    subst e
    exact (of_decide_eq_true h : T = "str")
  | lst xs =>
    obtain ⟨a, vs, e, rd, _⟩ := r
    subst e
    exact .inl ⟨of_decide_eq_true h, vs, .of rd⟩
  | dic ks xs =>
    obtain ⟨a, vs, u, e, rd, d, _⟩ := r
    subst e
    refine .inr (.inr (.inl ⟨of_decide_eq_true h, ?_⟩))
    rcases rd with rd | ⟨o, rd⟩
    · rcases d.2 with ⟨kk, _, eu⟩ | ⟨kk, _, eu⟩
      · exact .inl ⟨_, by rw [rd, eu]⟩
      · exact .inr ⟨_, by rw [rd, eu]⟩
    · exact absurd rd (hd ks xs rfl a o u rfl)
  | _ => cases h
def mtK (rn : Rn) (T : P → Bool) (f : List P → Option P) (is : IEs) (e : Env) (d : D) (S1 : Store) : R D :=
  match val S1 d with
    | some x => if T x then (evEs rn is e S1).bind fun ds S2 => opK f (d :: ds) S2 else .no
    | none => .no
theorem ev_meth (T : P → Bool) (f : List P → Option P) (i : IE) (is : IEs) (e : Env) (S : Store) : evE rn (.meth T f i is) e S = (evE rn i e S).bind fun d S1 => mtK rn T f is e d S1 := by
  simp only [evE]
  rfl
theorem mt_open {K : Kx} {m : Mp} {B : Addr → Prop} {σ : L2.St} {H : Hp} {S1 : Store} {d : D} {T : P → Bool} {f : List P → Option P} {is : IEs} {e : Env} {Q : VK} (h : EndG K cl W (rD K) m B σ H (mtK rn T f is e d S1) Q) :
    ∃ x, val S1 d = some x ∧ T x = true ∧ EndG K cl W (rD K) m B σ H ((evEs rn is e S1).bind fun ds S2 => opK f (d :: ds) S2) Q := by
  unfold mtK at h
  cases q : val S1 d with
  | none => rw [q] at h; exact h.elim
  | some x =>
    rw [q] at h
    dsimp only at h
    by_cases t : T x = true
    · rw [if_pos t] at h
      exact ⟨x, rfl, t, h⟩
    · rw [if_neg t] at h
      exact h.elim
theorem mt_openF {K : Kx} {m : Mp} {B : Addr → Prop} {σ : L2.St} {H : Hp} {S1 : Store} {d : D} {T : P → Bool} {f : List P → Option P} {is : IEs} {e : Env} {Q : VK} (h : EndF K cl W m B σ H (mtK rn T f is e d S1) Q) :
    ∃ x, val S1 d = some x ∧ T x = true ∧ EndF K cl W m B σ H ((evEs rn is e S1).bind fun ds S2 => opK f (d :: ds) S2) Q := by
  unfold mtK at h
  cases q : val S1 d with
  | none => rw [q] at h; exact h.elim
  | some x =>
    rw [q] at h
    dsimp only at h
    by_cases t : T x = true
    · rw [if_pos t] at h
      exact ⟨x, rfl, t, h⟩
    · rw [if_neg t] at h
      exact h.elim
/-- a text's or a list's method -/
theorem de_meth {T id : String} {name : Str} {o a : Expr} {es : List Expr} {i : IE} {is : IEs} {apos : Pos} {r : V → List V → Hp → VK → Prop} {f : List P → Option P} (hT : T ≠ "dict") (pa : PlainAttrs T) (slot : Slot T name id) (hty : typeOf (.builtin id) = pure (.type "method_descriptor")) (hm : MtR X id r) (hv : OpV X.K (rOfM r) f)
    (ho : DE X cl W o (evE rn i)) (ha : DA X cl W (a :: es) (evEs rn is)) (hbase : attributeBase o name X.env (eval o X.env) = eval o X.env)
    (hfew : ((backTo pos (starEach (a :: es) X.env)).all (fun x => !x.1) && (backToKw pos (keywordEach [] X.env)).all (fun x => x.1.isSome)
      && decide ((a :: es).length + ([] : List Keyword).length + (if ([] : List Keyword).isEmpty then 0 else 1) < 30)) = true)
    (hline : (apos.endLine == pos.line) = true) (hs : starEach (a :: es) X.env = (false, eval a X.env) :: starEach es X.env) (hplain : (backTo pos (starEach es X.env)).any (·.1) = false) :
    DE X cl W (.Call (.Attribute o name apos) (a :: es) [] pos) (evE rn (.meth (isTy T) f i is)) := PE.imp (pe_bm pa slot hty hm ho ha hbase hfew hline hs hplain) fun σ H Q h => by
  obtain ⟨m, B, e, S, hS, hE, h⟩ := h
  rw [ev_meth] at h
  refine tG_bind hS hE h fun d S1 m1 H1 v x1 hS1 hE1 r1 h1 eq1 => ?_
  obtain ⟨x, q, t, h1⟩ := mt_open h1
  refine ⟨tyV_top (r1.top hS1 q) t (fun ks xs e => by subst e; exact absurd (of_decide_eq_true t) hT), ?_⟩
  refine tG_bind hS1 hE1 h1 fun ds S2 m2 H2 vs x2 hS2 hE2 r2 h2 eq2 => ?_
  exact op_fin (ds := d :: ds) (vs := v :: vs) hv hS2 ⟨v, vs, rfl, x2.repD r1, r2⟩ h2 v vs rfl
theorem de_meth0 {T id : String} {name : Str} {o : Expr} {i : IE} {apos : Pos} {r : V → List V → Hp → VK → Prop} {f : List P → Option P} (hT : T ≠ "dict") (pa : PlainAttrs T) (slot : Slot T name id) (hty : typeOf (.builtin id) = pure (.type "method_descriptor")) (hm : MtR X id r) (hv : OpV X.K (rOfM r) f)
    (ho : DE X cl W o (evE rn i)) (hbase : attributeBase o name X.env (eval o X.env) = eval o X.env) (hline : (apos.endLine == pos.line) = true) :
    DE X cl W (.Call (.Attribute o name apos) [] [] pos) (evE rn (.meth (isTy T) f i .nil)) := PE.imp (pe_bm0 pa slot hty hm ho hbase hline) fun σ H Q h => by
  obtain ⟨m, B, e, S, hS, hE, h⟩ := h
  rw [ev_meth] at h
  refine tG_bind hS hE h fun d S1 m1 H1 v x1 hS1 hE1 r1 h1 eq1 => ?_
  obtain ⟨x, q, t, h1⟩ := mt_open h1
  refine ⟨tyV_top (r1.top hS1 q) t (fun ks xs e => by subst e; exact absurd (of_decide_eq_true t) hT), ?_⟩
  simp only [evEs, R.bind_ok] at h1
  exact op_fin (ds := [d]) (vs := [v]) hv hS1 ⟨v, [], rfl, r1, rfl⟩ h1 v [] rfl
theorem fe_meth {T id : String} {name : Str} {o a : Expr} {es : List Expr} {i : IE} {is : IEs} {apos : Pos} {r : V → List V → Hp → VK → Prop} {f : List P → Option P} (hT : T ≠ "dict") (pa : PlainAttrs T) (slot : Slot T name id) (hty : typeOf (.builtin id) = pure (.type "method_descriptor")) (hm : MtR X id r) (hv : OpF X.K (rOfM r) f) (hy : ∀ xs y, f xs = some y → (∃ xs, y = .lst xs) ∨ (∃ ks xs, y = .dic ks xs))
    (ho : DE X cl W o (evE rn i)) (ha : DA X cl W (a :: es) (evEs rn is)) (hbase : attributeBase o name X.env (eval o X.env) = eval o X.env)
    (hfew : ((backTo pos (starEach (a :: es) X.env)).all (fun x => !x.1) && (backToKw pos (keywordEach [] X.env)).all (fun x => x.1.isSome)
      && decide ((a :: es).length + ([] : List Keyword).length + (if ([] : List Keyword).isEmpty then 0 else 1) < 30)) = true)
    (hline : (apos.endLine == pos.line) = true) (hs : starEach (a :: es) X.env = (false, eval a X.env) :: starEach es X.env) (hplain : (backTo pos (starEach es X.env)).any (·.1) = false) :
    FE X cl W (.Call (.Attribute o name apos) (a :: es) [] pos) (evE rn (.meth (isTy T) f i is)) := PE.imp (pe_bm pa slot hty hm ho ha hbase hfew hline hs hplain) fun σ H Q h => by
  obtain ⟨m, B, e, S, hS, hE, h⟩ := of_tF h
  rw [ev_meth] at h
  refine tG_bindF hS hE h fun d S1 m1 H1 v x1 hS1 hE1 r1 h1 eq1 => ?_
  obtain ⟨x, q, t, h1⟩ := mt_openF h1
  refine ⟨tyV_top (r1.top hS1 q) t (fun ks xs e => by subst e; exact absurd (of_decide_eq_true t) hT), ?_⟩
  refine tG_bindF hS1 hE1 h1 fun ds S2 m2 H2 vs x2 hS2 hE2 r2 h2 eq2 => ?_
  exact opF_fin (ds := d :: ds) (vs := v :: vs) hv hy hS2 ⟨v, vs, rfl, x2.repD r1, r2⟩ h2 v vs rfl
end
end DL

set_option maxRecDepth 100000
set_option maxHeartbeats 1000000
/-! DJ4: calls of defs, what is given up, changes of lists -/
namespace DL
open PySem PySem.Spec PyProof.Rows L2
/-- what a def promises: it tells what g tells -/
def spD (K : PySem.W.Frag) (cl : Cls_) (n : Nat) (g : List D → Store → R D) : Sp := fun vs H Q E =>
  ∃ m B S ds, RelS ⟨K, cl.hd⟩ m B S H ∧ RepDs ⟨K, cl.hd⟩ H m B ds vs ∧ ds.length = n ∧ EndG ⟨K, cl.hd⟩ cl (fun cls dd _ H' => E cls dd H') (rD ⟨K, cl.hd⟩) m B [] H (g ds S) Q
section
variable {X : Cx} {cl : Cls_} {W : WX} {rn : Rn} {pos : Pos}
theorem EndG.w {K : Kx} {α β : Type} {rep : Rp α β} {m : Mp} {B : Addr → Prop} {σ σ' : L2.St} {H : Hp} {W W' : WX} {r : R α} {Q : β → Hp → Prop} (h : EndG K cl W rep m B σ H r Q) (i : ∀ cls dd H', W cls dd σ H' → W' cls dd σ' H') : EndG K cl W' rep m B σ' H r Q := by
  cases r with
  | ok a S => exact h
  | ex c fs S => exact fun m' H' cls dd x rs xr => i cls dd H' (h m' H' cls dd x rs xr)
  | no => exact h
theorem de_call {k n fid : Nat} {f : Addr} {fd : FuncData} {ps : List Str} {x : Str} {p : Pos} {a : Expr} {es : List Expr} {is : IEs} (F : FnOk X.prog X.w X.K X.mg X.base (L2N.CX X.prog X.w) k f fd ps (spD X.K cl n (rn fid))) (hr : Room k X.A) (hg : Gl X x) (hm : X.mg x = some (.ref f))
    (hk : PySem.W.keepIn X.K (.ref f) = true) (hb : Binds X.K fd ps []) (tk : L2N.Takes X W) (ha : DA X cl W (a :: es) (evEs rn is)) (hn : is.len = n)
    (hdb : (x == ("__debug__" : Str)) = false) (he : starEach (a :: es) X.env = (false, eval a X.env) :: starEach es X.env) (hpl : (backTo pos (starEach es X.env)).any (·.1) = false) :
    DE X cl W (.Call (.Name x p) (a :: es) [] pos) (evE rn (.call fid is)) :=
  PE.imp (pe_callS F hr hg hm hk hb (fun σ => L2N.passAt tk σ) ha hdb he hpl) fun σ H Q h => by
    obtain ⟨m, B, e, S, hS, hE, h⟩ := h
    simp only [evE] at h
    refine tG_bind hS hE h fun ds S1 m1 H1 vs x1 hS1 hE1 r1 h1 eq1 => ?_
    exact ⟨m1, B, S1, ds, hS1, r1, by rw [evEs_len eq1, hn], h1.w fun cls dd H' z => z⟩
end
/-! ### what is given up -/
section
variable {K : Kx} {m m1 : Mp} {B : Addr → Prop} {H H1 : Hp} {S S1 : Store} {l : Nat} {a : Addr}
theorem okT_at : ∀ {S0 S : Store} {i : Nat} {kvs : List (P × Nat)}, okT S0 S = true → i < S0.length → S[i]? = some (.dir kvs) → S0[i]? = some (.dir kvs)
  | [], S, i, kvs, h, hi, e => by simp at hi
  | b :: r, [], i, kvs, h, hi, e => by simp at e
  | b :: r, c :: s, 0, kvs, h, hi, e => by
    simp at e
    subst e
    unfold okT at h
    rw [Bool.and_eq_true] at h
    simp [of_decide_eq_true h.1]
  | b :: r, c :: s, i + 1, kvs, h, hi, e => by
    unfold okT at h
    rw [Bool.and_eq_true] at h
    simp only [List.getElem?_cons_succ] at e ⊢
    exact okT_at h.2 (by simpa using hi) e
theorem okT_len : ∀ {S0 S : Store}, okT S0 S = true → S0.length ≤ S.length
  | [], S, h => Nat.zero_le _
  | b :: r, [], h => by simp [okT] at h
  | b :: r, c :: s, h => by
    unfold okT at h
    rw [Bool.and_eq_true] at h
    simp [okT_len h.2]
theorem take_at {α : Type} {l : List α} {n i : Nat} {x : α} (h : (l.take n)[i]? = some x) : i < n ∧ l[i]? = some x := by
  rw [List.getElem?_take] at h
  split at h
  · exact ⟨by assumption, h⟩
  · cases h
/-- only the objects that stood ahead are kept -/
theorem mem_take {α : Type} {x : α} {n : Nat} {l : List α} (h : x ∈ l.take n) : x ∈ l := (List.take_sublist n l).mem h
theorem Ext.back (x : Ext m H m1 H1) {n : Nat} (hn : m.length ≤ n) : Ext m H (m1.take n) H1 where
  len := by
    rw [List.length_take]
    have := x.len
    omega
  keep := fun i y e => by
    have hi : i < m.length := (List.getElem?_eq_some_iff.mp e).1
    rw [List.getElem?_take_of_lt (by omega)]
    exact x.keep i y e
  obj := fun b o n' e => ⟨(x.obj b o n' e).1, fun z => (x.obj b o n' e).2 (mem_take z)⟩
  tup := x.tup
  dom := x.dom
theorem Pr.take {n : Nat} (b : Addr) (h : Pr (m.take n) B b) : Pr m B b := h.elim (fun z => .inl (mem_take z)) .inr
theorem RepDs.refs : ∀ {ks : List (P × Nat)} {vs : List V} {m' : Mp}, RepDs K H m B (ks.map fun p => .ref p.2) vs → (∀ p ∈ ks, p.2 < m'.length) → (∀ (i : Nat) (y : Option Addr), m[i]? = some y → i < m'.length → m'[i]? = some y) → RepDs K H m' B (ks.map fun p => .ref p.2) vs
  | [], vs, m', h, _, _ => h
  | p :: r, vs, m', h, hl, hk => by
    obtain ⟨v, s, rfl, h1, h2⟩ := h
    refine ⟨v, s, rfl, ?_, RepDs.refs h2 (fun q hq => hl q (List.mem_cons_of_mem _ hq)) hk⟩
    have hp := hl p List.mem_cons_self
    dsimp only [RepD] at h1 ⊢
    cases q : m[p.2]? with
    | none => rw [q] at h1; exact h1.elim
    | some y =>
      rw [q] at h1
      rw [hk _ _ q hp]
      exact h1
theorem RepDs.refs_lt : ∀ {ks : List (P × Nat)} {vs : List V}, RepDs K H m B (ks.map fun p => .ref p.2) vs → ∀ p ∈ ks, p.2 < m.length
  | [], vs, h, p, hp => by cases hp
  | q :: r, vs, h, p, hp => by
    obtain ⟨v, s, rfl, h1, h2⟩ := h
    rcases List.mem_cons.mp hp with e | hp
    · subst e
      dsimp only [RepD] at h1
      cases z : m[p.2]? with
      | none => rw [z] at h1; exact h1.elim
      | some y => exact (List.getElem?_eq_some_iff.mp z).1
    · exact RepDs.refs_lt h2 p hp
/-- the store cut to what stood ahead of it -/
theorem RelS.back (r0 : RelS K m B S H) (x : Ext m H m1 H1) (r : RelS K m1 B S1 H1) (ok : okT S S1 = true) : RelS K (m1.take S.length) B (S1.take S.length) H1 where
  len := by rw [List.length_take, List.length_take, r.len]
  inj := fun i j b e1 e2 => by
    have h1 := take_at e1
    have h2 := take_at e2
    exact r.inj i j b h1.2 h2.2
  ob := fun i b e => by
    obtain ⟨hi, e⟩ := take_at e
    obtain ⟨o, q, q2⟩ := r.ob i b e
    refine ⟨o, by rw [List.getElem?_take_of_lt hi, q], ?_⟩
    cases o with
    | lst xs =>
      obtain ⟨vs, e, h⟩ := q2
      exact ⟨vs, e, h.less Pr.take⟩
    | dic kvs =>
      obtain ⟨vs, u, e, d, h⟩ := q2
      exact ⟨vs, u, e, d, h.less Pr.take⟩
    | dir kvs =>
      obtain ⟨vs, u, e', d, h⟩ := q2
      have z := okT_at ok hi q
      have hm : i < m.length := by rw [r0.len]; exact hi
      have hlt : ∀ p ∈ kvs, p.2 < m.length := by
        have q3 := x.keep i _ (List.getElem?_eq_getElem hm)
        rw [e] at q3
        have q4 : m[i]? = some (some b) := by
          rcases q3 with q3 | q3
          · rw [List.getElem?_eq_getElem hm]; exact q3.symm
          · cases q3
        obtain ⟨o', g1, g2⟩ := r0.ob i b q4
        rw [z] at g1
        cases g1
        obtain ⟨vs', u', _, _, h'⟩ := g2
        exact RepDs.refs_lt h'
      refine ⟨vs, u, e', d, RepDs.refs h (fun p hp => ?_) fun j y ej hj => ?_⟩
      · rw [List.length_take, ← r0.len]
        have := hlt p hp
        have := x.len
        omega
      · rw [List.getElem?_take_of_lt, ej]
        rw [List.length_take] at hj
        omega
    | dead => exact q2.elim
  dead := fun i e => by
    obtain ⟨hi, e⟩ := take_at e
    rw [List.getElem?_take_of_lt hi, r.dead i e]
  bd := fun b z => ⟨(r.bd b z).1, fun q => (r.bd b z).2 (mem_take q)⟩
/-- one object given up in its place -/
theorem mem_set_none {b : Addr} {l : Nat} (h : some b ∈ m.set l none) : some b ∈ m := by
  rcases List.mem_or_eq_of_mem_set h with h | h
  · exact h
  · cases h
theorem Pr.kill {l : Nat} (b : Addr) (h : Pr (m.set l none) B b) : Pr m B b := h.elim (fun z => .inl (mem_set_none z)) .inr
theorem RepD.kill {l : Nat} : ∀ {d : D} {v : V}, RepD K H m B d v → RepD K H (m.set l none) B d v
  | .p x, v, h => Rep.less Pr.kill h
  | .ref j, v, h => by
    dsimp only [RepD] at h ⊢
    by_cases e : l = j
    · subst e
      by_cases hl : l < m.length
      · rw [List.getElem?_set_self hl]
        trivial
      · rw [List.getElem?_eq_none (Nat.le_of_not_lt hl)] at h
        exact h.elim
    · rw [List.getElem?_set_ne e]
      exact h
  | .exc _ _, v, ⟨g, e1, e2, e3, e4⟩ => ⟨g, e1, e2, e3, e4.less Pr.kill⟩
theorem RepDs.kill {l : Nat} : ∀ {ds : List D} {vs : List V}, RepDs K H m B ds vs → RepDs K H (m.set l none) B ds vs
  | [], v, h => h
  | d :: r, v, h => by
    obtain ⟨v, s, rfl, a, b⟩ := h
    exact ⟨v, s, rfl, a.kill, b.kill⟩
theorem Ext.kill {l : Nat} : Ext m H (m.set l none) H where
  len := by simp
  keep := fun i y e => by
    by_cases h : l = i
    · subst h
      right
      rw [List.getElem?_set_self (List.getElem?_eq_some_iff.mp e).1]
    · left
      rw [List.getElem?_set_ne h, e]
  obj := fun b o n e => ⟨e, fun z => n (mem_set_none z)⟩
  tup := fun _ _ _ e => e
  dom := fun _ e => e
theorem RelS.kill (r : RelS K m B S H) (l : Nat) : RelS K (m.set l none) B (S.set l .dead) H where
  len := by simp [r.len]
  inj := fun i j b e1 e2 => by
    have f : ∀ {i : Nat}, (m.set l none)[i]? = some (some b) → m[i]? = some (some b) := fun {i} e => by
      by_cases h : l = i
      · subst h
        rw [List.getElem?_set_self'] at e
        cases q : m[l]? with
        | none => rw [q] at e; cases e
        | some y => rw [q] at e; cases e
      · rw [List.getElem?_set_ne h] at e
        exact e
    exact r.inj i j b (f e1) (f e2)
  ob := fun i b e => by
    by_cases h : l = i
    · subst h
      rw [List.getElem?_set_self'] at e
      cases q : m[l]? with
      | none => rw [q] at e; cases e
      | some y => rw [q] at e; cases e
    · rw [List.getElem?_set_ne h] at e
      obtain ⟨o, q, q2⟩ := r.ob i b e
      refine ⟨o, by rw [List.getElem?_set_ne h, q], ?_⟩
      cases o with
      | lst xs =>
        obtain ⟨vs, e, h⟩ := q2
        exact ⟨vs, e, h.less Pr.kill⟩
      | dic kvs =>
        obtain ⟨vs, u, e, d, h⟩ := q2
        exact ⟨vs, u, e, d, h.less Pr.kill⟩
      | dir kvs =>
        obtain ⟨vs, u, e, d, h⟩ := q2
        exact ⟨vs, u, e, d, h.kill⟩
      | dead => exact q2.elim
  dead := fun i e => by
    by_cases h : l = i
    · subst h
      rw [List.getElem?_set_self']
      rw [List.getElem?_set_self'] at e
      cases q : m[l]? with
      | none => rw [q] at e; cases e
      | some y =>
        have : l < S.length := by rw [← r.len]; exact (List.getElem?_eq_some_iff.mp q).1
        rw [List.getElem?_eq_getElem this]
        rfl
    · rw [List.getElem?_set_ne h] at e
      rw [List.getElem?_set_ne h, r.dead i e]
  bd := fun b z => ⟨(r.bd b z).1, fun q => (r.bd b z).2 (mem_set_none q)⟩
theorem nomem_kill (r : RelS K m B S H) (h : m[l]? = some (some a)) : some a ∉ m.set l none := fun z => by
  obtain ⟨i, e⟩ := List.mem_iff_getElem?.mp z
  by_cases hi : l = i
  · subst hi
    rw [List.getElem?_set_self (List.getElem?_eq_some_iff.mp h).1] at e
    cases e
  · rw [List.getElem?_set_ne hi] at e
    exact hi (r.inj l i a h e)
theorem nomem_take (r : RelS K m B S H) {n : Nat} (h : m[l]? = some (some a)) (hn : n ≤ l) : some a ∉ m.take n := fun z => by
  obtain ⟨i, e⟩ := List.mem_iff_getElem?.mp z
  obtain ⟨hi, e⟩ := take_at e
  have := r.inj l i a h e
  omega
/-- the new world where the object at l is given up -/
theorem gone_rel (r0 : RelS K m B S H) (x : Ext m H m1 H1) (r : RelS K m1 B S1 H1) (hl : m1[l]? = some (some a)) (nB : ¬ B a) : ∃ m2, Ext m H m2 H1 ∧ RelS K m2 B (gone S l S1) H1 ∧ (∀ b, Pr m2 B b → Pr m1 B b) ∧ ¬ Pr m2 B a := by
  unfold gone
  by_cases c : l = S.length ∧ S1.length = S.length + 1 ∧ okT S S1 = true
  · rw [if_pos c]
    refine ⟨m1.take S.length, x.back (by rw [r0.len]; exact Nat.le_refl _), r0.back x r c.2.2, Pr.take, fun z => z.elim (nomem_take r hl (by omega)) nB⟩
  · rw [if_neg c]
    exact ⟨m1.set l none, x.trans .kill, r.kill l, Pr.kill, fun z => z.elim (nomem_kill r hl) nB⟩
theorem kill_many (a : Addr) : ∀ {kvs : List (P × Nat)} {m : Mp} {S : Store}, RelS K m B S H → ∃ m2, Ext m H m2 H ∧ RelS K m2 B (killR S kvs) H ∧ (∀ b, Pr m2 B b → Pr m B b) ∧ (∀ b, some b ∈ m2 → some b ∈ m) ∧ ∀ p ∈ kvs, ∀ b, m[p.2]? = some (some b) → some b ∉ m2
  | [], m, S, r => ⟨m, .refl, r, fun _ z => z, fun _ z => z, fun p hp => nomatch hp⟩
  | (k, l) :: rest, m, S, r => by
    obtain ⟨m2, x, r2, p2, s2, n2⟩ := kill_many a (kvs := rest) (r.kill l)
    refine ⟨m2, Ext.trans .kill x, r2, fun b z => Pr.kill b (p2 b z), fun b z => mem_set_none (s2 b z), fun p hp b e => ?_⟩
    rcases List.mem_cons.mp hp with h | hp
    · subst h
      exact fun z => nomem_kill r e (s2 b z)
    · by_cases h : l = p.2
      · exact fun z => nomem_kill (l := l) r (by rw [h]; exact e) (s2 b z)
      · exact n2 p hp b (by rw [List.getElem?_set_ne h]; exact e)
end
section
variable {X : Cx} {cl : Cls_} {W : WX} {rn : Rn} {pos : Pos}
theorem frz_vals {K : Kx} {H : Hp} {m m2 : Mp} {B : Addr → Prop} {S : Store} (r : RelS K m B S H) (hp : ∀ b, Pr m2 B b → Pr m B b) : ∀ {kvs : List (P × Nat)} {ws : List V} {vs : List P}, RepDs K H m B (kvs.map fun p => .ref p.2) ws → freezeR S kvs = some vs →
    (∀ p ∈ kvs, ∀ b, m[p.2]? = some (some b) → some b ∉ m2) → Reps K H (Pr m2 B) vs ws
  | [], ws, vs, h, e, _ => by
    cases e
    exact Reps.nil_iff.mpr h
  | (k, l) :: rest, ws, vs, h, e, n => by
    obtain ⟨v, s, rfl, h1, h2⟩ := h
    unfold freezeR at e
    cases q : S[l]?.bind oval with
    | none => rw [q] at e; cases e
    | some x =>
      rw [q] at e
      cases q2 : freezeR S rest with
      | none => rw [q2] at e; cases e
      | some xs =>
        rw [q2] at e
        cases e
        refine Reps.cons_iff.mpr ⟨v, s, rfl, ?_, frz_vals r hp h2 q2 fun p hq => n p (List.mem_cons_of_mem _ hq)⟩
        dsimp only [RepD] at h1
        cases z : m[l]? with
        | none => rw [z] at h1; exact h1.elim
        | some y =>
          rw [z] at h1
          cases y with
          | none =>
            rw [r.dead l z] at q
            cases q
          | some a =>
            subst h1
            have na : ¬ Pr m2 B a := fun w => w.elim (n (k, l) List.mem_cons_self a z) fun w => (r.bd a w).2 (List.mem_of_getElem? z)
            obtain ⟨o, q3, q4⟩ := r.ob l a z
            rw [q3] at q
            cases o with
            | lst xs =>
              cases q
              obtain ⟨ws, e, h⟩ := q4
              exact ⟨a, ws, rfl, na, e, h.less hp⟩
            | dic kvs =>
              cases q
              obtain ⟨ws, u, e, d, h⟩ := q4
              exact ⟨a, ws, u, rfl, na, .inl e, d, h.less hp⟩
            | dir kvs => cases q
            | dead => cases q
theorem DE.frz {a : Expr} {i : IE} (h : DE X cl W a (evE rn i)) : DE X cl W a (evE rn (.frz i)) := PE.imp h fun σ H Q h => by
  obtain ⟨m, B, e, S, hS, hE, h⟩ := h
  simp only [evE] at h
  refine tG_bind hS hE h fun d S1 m1 H1 v x1 hS1 hE1 r1 h1 eq1 => ?_
  rw [eq1, R.bind_ok] at h
  cases d with
  | p x => exact EndG.here h1 hS1 r1
  | exc c fs => exact h1.elim
  | ref l =>
    have r1' : RepD (kx X cl) H1 m1 B (.ref l) v := r1
    dsimp only [RepD] at r1'
    cases z : m1[l]? with
    | none => rw [z] at r1'; exact r1'.elim
    | some y =>
      rw [z] at r1'
      cases y with
      | none =>
        simp only [frzD, hS1.dead l z] at h
        exact h.elim
      | some b =>
        subst r1'
        obtain ⟨o, q3, q4⟩ := hS1.ob l b z
        have nB : ¬ B b := fun w => (hS1.bd b w).2 (List.mem_of_getElem? z)
        simp only [frzD, q3] at h
        cases o with
        | lst xs =>
          obtain ⟨ws, e, g⟩ := q4
          obtain ⟨m2, x2, r2, p2, n2⟩ := gone_rel hS x1 hS1 z nB
          exact h m2 H1 (.ref b) x2 r2 ⟨b, ws, rfl, n2, e, g.less p2⟩
        | dic kvs =>
          obtain ⟨ws, u, e, d, g⟩ := q4
          obtain ⟨m2, x2, r2, p2, n2⟩ := gone_rel hS x1 hS1 z nB
          exact h m2 H1 (.ref b) x2 r2 ⟨b, ws, u, rfl, n2, .inl e, d, g.less p2⟩
        | dir kvs =>
          obtain ⟨ws, u, e, d, g⟩ := q4
          dsimp only at h
          cases q5 : freezeR S1 kvs with
          | none => rw [q5] at h; exact h.elim
          | some vs =>
            rw [q5] at h
            obtain ⟨m2, x2, r2, p2, s2, n2⟩ := kill_many b (kvs := kvs) (hS1.kill l)
            have n3 : ∀ p ∈ kvs, ∀ c, m1[p.2]? = some (some c) → some c ∉ m2 := fun p hp c ec w => by
              by_cases hl : l = p.2
              · exact nomem_kill hS1 (l := l) (by rw [hl]; exact ec) (s2 c w)
              · exact n2 p hp c (by rw [List.getElem?_set_ne hl]; exact ec) w
            refine h m2 H1 (.ref b) ((x1.trans .kill).trans x2) r2 ⟨b, ws, u, rfl, fun w => w.elim (fun w => nomem_kill hS1 z (s2 b w)) nB, .inl e, d, ?_⟩
            exact frz_vals hS1 (fun c w => Pr.kill c (p2 c w)) g q5 n3
        | dead => exact h.elim
end
end DL

set_option maxRecDepth 100000
set_option maxHeartbeats 1000000
/-! DS1: statements -/
namespace DL
open PySem PySem.Spec PyProof.Rows L2
section
variable (K : Kx) (cl : Cls_) (W : WX)
def EndS (m : Mp) (B : Addr → Prop) (H : Hp) (r : RS) (D : Ends) : Prop :=
  match r with
  | .nx e' S' => ∀ m' H' σ', Ext m H m' H' → RelS K m' B S' H' → RelE K m' B e' σ' H' → D.nx σ' H'
  | .bk e' S' => ∀ m' H' σ', Ext m H m' H' → RelS K m' B S' H' → RelE K m' B e' σ' H' → D.bk σ' H'
  | .ct e' S' => ∀ m' H' σ', Ext m H m' H' → RelS K m' B S' H' → RelE K m' B e' σ' H' → D.ct σ' H'
  | .ret d S' => ∀ m' H' v, Ext m H m' H' → RelS K m' B S' H' → RepD K H' m' B d v → D.rt v H'
  | .ex c fs e' S' => ∀ m' H' σ' cls dd, Ext m H m' H' → RelS K m' B S' H' → RelE K m' B e' σ' H' → XR K cl H' m' B c fs cls dd → W cls dd σ' H'
  | .no => False
def tS (f : Env → Store → RS) : TS := fun D σ H => ∃ m B e S, RelS K m B S H ∧ RelE K m B e σ H ∧ EndS K cl W m B H (f e S) D
end
def DS (X : Cx) (cl : Cls_) (W : WX) (s : Stmt) (f : Env → Store → RS) : Prop := PS X s (tS (kx X cl) cl W f)
def DSs (X : Cx) (cl : Cls_) (W : WX) (s : List Stmt) (f : Env → Store → RS) : Prop := PSs X s (tS (kx X cl) cl W f)
theorem PS.imp {X : Cx} {s : Stmt} {t t' : TS} (h : PS X s t) (i : ∀ D σ H, t' D σ H → t D σ H) : PS X s t' := ⟨fun pins s σ H D I q => h.run pins s σ H D I (i D σ H q)⟩
theorem PSs.imp {X : Cx} {s : List Stmt} {t t' : TS} (h : PSs X s t) (i : ∀ D σ H, t' D σ H → t D σ H) : PSs X s t' := ⟨fun pins s σ H D I q => h.run pins s σ H D I (i D σ H q)⟩
section
variable {K : Kx} {cl : Cls_} {W : WX} {m m1 : Mp} {B : Addr → Prop} {σ : L2.St} {H H1 : Hp} {S : Store} {e : Env}
theorem EndS.ext {r : RS} {D : Ends} (x : Ext m H m1 H1) (h : EndS K cl W m B H r D) : EndS K cl W m1 B H1 r D := by
  cases r with
  | nx e' S' => exact fun m' H' σ' x' rs re => h m' H' σ' (x.trans x') rs re
  | bk e' S' => exact fun m' H' σ' x' rs re => h m' H' σ' (x.trans x') rs re
  | ct e' S' => exact fun m' H' σ' x' rs re => h m' H' σ' (x.trans x') rs re
  | ret d S' => exact fun m' H' v x' rs rd => h m' H' v (x.trans x') rs rd
  | ex c fs e' S' => exact fun m' H' σ' cls dd x' rs re xr => h m' H' σ' cls dd (x.trans x') rs re xr
  | no => exact h
theorem tS_bind {α β : Type} {rep : Rp α β} {f : Env → Store → R α} {k : α → Store → RS} {D : Ends} {Q1 : β → Hp → Prop} (hS : RelS K m B S H) (hE : RelE K m B e σ H) (h : EndS K cl W m B H ((f e S).go e k) D)
    (next : ∀ a S1 m1 H1 b, Ext m H m1 H1 → RelS K m1 B S1 H1 → RelE K m1 B e σ H1 → rep H1 m1 B a b → EndS K cl W m1 B H1 (k a S1) D → f e S = .ok a S1 → Q1 b H1) : tG K cl W rep f σ H Q1 := by
  refine ⟨m, B, e, S, hS, hE, ?_⟩
  cases q : f e S with
  | ok a S1 =>
    rw [q] at h
    exact fun m' H' b x rs rp => next a S1 m' H' b x rs (x.relE hE) rp (EndS.ext x h) q
  | ex c fs S1 =>
    rw [q] at h
    exact fun m' H' cls dd x rs xr => h m' H' σ cls dd x rs (x.relE hE) xr
  | no =>
    rw [q] at h
    exact h.elim
end
section
variable {X : Cx} {cl : Cls_} {W : WX} {rn : Rn} {w : Nat} {pos : Pos}
/-! ### blocks, small statements -/
theorem dss_nil : DSs X cl W [] (evSs rn w .nil) := PSs.imp pss_nil fun D σ H h => by
  obtain ⟨m, B, e, S, hS, hE, h⟩ := h
  exact h m H σ .refl hS hE
theorem dss_cons {s : Stmt} {r : List Stmt} {i : IS} {is : ISs} (h1 : DS X cl W s (evS rn w i)) (h2 : DSs X cl W r (evSs rn w is)) : DSs X cl W (s :: r) (evSs rn w (.cons i is)) := PSs.imp (pss_cons h1 h2) fun D σ H h => by
  obtain ⟨m, B, e, S, hS, hE, h⟩ := h
  simp only [evSs] at h
  refine ⟨m, B, e, S, hS, hE, ?_⟩
  cases q : evS rn w i e S with
  | nx e1 S1 =>
    rw [q] at h
    exact fun m' H' σ' x rs re => ⟨m', B, e1, S1, rs, re, EndS.ext x h⟩
  | ret d S1 => rw [q] at h; exact h
  | bk e1 S1 => rw [q] at h; exact h
  | ct e1 S1 => rw [q] at h; exact h
  | ex c fs e1 S1 => rw [q] at h; exact h
  | no => rw [q] at h; exact h
theorem ds_pass : DS X cl W (.Pass pos) (evS rn w .pass) := PS.imp ps_pass fun D σ H h => by
  obtain ⟨m, B, e, S, hS, hE, h⟩ := h
  simp only [evS] at h
  exact h m H σ .refl hS hE
theorem ds_brk : DS X cl W (.Break pos) (evS rn w .brk) := PS.imp ps_break fun D σ H h => by
  obtain ⟨m, B, e, S, hS, hE, h⟩ := h
  simp only [evS] at h
  exact h m H σ .refl hS hE
theorem ds_cnt : DS X cl W (.Continue pos) (evS rn w .cnt) := PS.imp ps_continue fun D σ H h => by
  obtain ⟨m, B, e, S, hS, hE, h⟩ := h
  simp only [evS] at h
  exact h m H σ .refl hS hE
theorem ds_expr {a : Expr} {i : IE} (ha : DE X cl W a (evE rn i)) (hs : swapsWith a none pos.line X.env = pure false) : DS X cl W (.Expr a pos) (evS rn w (.expr i)) := PS.imp (ps_expr ha hs) fun D σ H h => by
  obtain ⟨m, B, e, S, hS, hE, h⟩ := h
  simp only [evS] at h
  refine tS_bind hS hE h fun d S1 m1 H1 v x1 hS1 hE1 r1 h1 eq1 => ?_
  exact h1 m1 H1 σ .refl hS1 hE1
theorem ds_ret {a : Expr} {i : IE} (ha : DE X cl W a (evE rn i)) : DS X cl W (.Return (some a) pos) (evS rn w (.ret i)) := PS.imp (ps_ret ha) fun D σ H h => by
  obtain ⟨m, B, e, S, hS, hE, h⟩ := h
  simp only [evS] at h
  refine tS_bind hS hE h fun d S1 m1 H1 v x1 hS1 hE1 r1 h1 eq1 => ?_
  exact h1 m1 H1 v .refl hS1 r1
theorem ev_iff (t : IE) (a b : ISs) (e : Env) (S : Store) : evS rn w (.iff t a b) e S = (testD (evE rn t e S)).go e fun c S1 => if c then evSs rn w a e S1 else evSs rn w b e S1 := by
  simp only [evS, testD]
  cases evE rn t e S with
  | ok d S1 =>
    simp only [R.bind_ok, R.go_ok]
    cases trueD d with
    | none => rfl
    | some b => cases b <;> rfl
  | ex c fs S1 => rfl
  | no => rfl
theorem ds_if {c : Expr} {a b : List Stmt} {t : IE} {i j : ISs} (hc : DT X cl W c (evE rn t)) (ha : DSs X cl W a (evSs rn w i)) (hb : DSs X cl W b (evSs rn w j)) : DS X cl W (.If c a b pos) (evS rn w (.iff t i j)) := PS.imp (ps_if hc ha hb) fun D σ H h => by
  obtain ⟨m, B, e, S, hS, hE, h⟩ := h
  rw [ev_iff] at h
  refine tS_bind hS hE h fun d S1 m1 H1 v x1 hS1 hE1 r1 h1 eq1 => ?_
  cases r1
  cases d with
  | true => exact ⟨m1, B, e, S1, hS1, hE1, h1⟩
  | false => exact ⟨m1, B, e, S1, hS1, hE1, h1⟩

/-! ### stores -/
theorem ds_set {i : Nat} {x : Str} {a : Expr} {j : IE} {pos' : Pos} (hN : X.N.Nodup) (hi : X.N[i]? = some x) (hx : Loc X.env.scope x) (ha : DE X cl W a (evE rn j)) (hs : swapsWith a (some (.Name x pos')) pos.line X.env = pure false) (hf : X.fn x = true ∨ X.env.scope.names.lookup x = some .local) :
    DS X cl W (.Assign [.Name x pos'] a pos) (evS rn w (.asg (.one i) j)) := PS.imp (ps_set hN hi hx ha hs hf) fun D σ H h => by
  obtain ⟨m, B, e, S, hS, hE, h⟩ := h
  simp only [evS, assignTg] at h
  refine tS_bind hS hE h fun d S1 m1 H1 v x1 hS1 hE1 r1 h1 eq1 => ?_
  exact h1 m1 H1 _ .refl hS1 (hE1.set r1 i)
/-- an end where the slot i is stored -/
theorem ds_aug {i : Nat} {x : Str} {a : Expr} {j : IE} {op : Operator} {ti : TIp} {f : List P → Option P} {pos' : Pos} (hN : X.N.Nodup) (hi : X.N[i]? = some x) (hx : Loc X.env.scope x) (ha : DE X cl W a (evE rn j)) (ho : PIp X op ti) (hv : OpV X.K (rOf2 ti) f) (hf : X.fn x = true ∨ X.env.scope.names.lookup x = some .local) :
    DS X cl W (.AugAssign (.Name x pos') op a pos) (evS rn w (.asg (.one i) (.op f (.cons (.v i) (.cons j .nil))))) := PS.imp (ps_aug hN hi hx ha ho hf) fun D σ H h => by
  obtain ⟨m, B, e, S, hS, hE, h⟩ := h
  simp only [evS, assignTg] at h
  rw [ev_op2] at h
  cases q : evE rn (.v i) e S with
  | ok d0 S0 =>
    have hd : e[i]? = some (some d0) ∧ S0 = S := by
      simp only [evE] at q
      cases z : e[i]? with
      | none => rw [z] at q; cases q
      | some o =>
        rw [z] at q
        cases o with
        | none => cases q
        | some d => cases q; exact ⟨rfl, rfl⟩
    obtain ⟨hd, rfl⟩ := hd
    rw [q, R.bind_ok] at h
    obtain ⟨v0, e0, r0⟩ := hE.at_ i d0 hd
    refine ⟨v0, e0, ?_⟩
    have go_bind : ∀ {α β : Type} (r : R α) (k : α → Store → R β) (k2 : β → Store → RS), (r.bind k).go e k2 = r.go e fun a S => (k a S).go e k2 := fun r k k2 => by cases r <;> rfl
    rw [go_bind] at h
    refine tS_bind hS hE h fun d S1 m1 H1 v x1 hS1 hE1 r1 h1 eq1 => ?_
    unfold opK at h1
    cases z : vals S1 [d0, d] with
    | none => rw [z] at h1; exact h1.elim
    | some xs =>
      rw [z] at h1
      dsimp only at h1
      cases z2 : f xs with
      | none => rw [z2] at h1; exact h1.elim
      | some y =>
        rw [z2] at h1
        refine hv H1 (Pr m1 B) xs [v0, v] y _ (fun a p => hS1.pr p) (RepDs.top (ds := [d0, d]) hS1 ⟨v0, [v], rfl, x1.repD r0, v, [], rfl, r1, rfl⟩ z) z2 (fun H' u s rp => ?_) v0 v rfl
        exact h1 m1 H' _ (.same s) (hS1.same s) (((Ext.same s).relE hE1).set (d := .p y) rp i)
  | ex c fs S0 =>
    simp only [evE] at q
    cases z : e[i]? with
    | none => rw [z] at q; cases q
    | some o => rw [z] at q; cases o <;> cases q
  | no => rw [q] at h; exact h.elim
/-- targets -/
def gD (k : PySem.W.Frag) (tg : Tg) : TG := fun v σ H Q => ∃ (K : Kx) (m : Mp) (B : Addr → Prop) (e : Env) (S : Store) (d : D) (e' : Env), K.k = k ∧ RelS K m B S H ∧ RelE K m B e σ H ∧ RepD K H m B d v ∧ assignTg tg d S e = some e' ∧ ∀ σ', RelE K m B e' σ' H → Q σ' H
def DG (X : Cx) (target : Expr) (tg : Tg) : Prop := PG X target (gD X.K tg)
theorem PG.imp {X : Cx} {e : Expr} {t t' : TG} (h : PG X e t) (i : ∀ v σ H Q, t' v σ H Q → t v σ H Q) : PG X e t' := ⟨fun pins s σ H v u Q I r q => h.run pins s σ H v u Q I r (i v σ H Q q)⟩
theorem dg_name {i : Nat} {x : Str} (hN : X.N.Nodup) (hi : X.N[i]? = some x) (hx : Loc X.env.scope x) (hf : X.fn x = true ∨ X.env.scope.names.lookup x = some .local) : DG X (.Name x pos) (.one i) := PG.imp (pg_name hN hi hx hf) fun v σ H Q h => by
  obtain ⟨K, m, B, e, S, d, e', hK, hS, hE, r, q, h⟩ := h
  cases q
  exact h _ (hE.set r i)
def gNames : List Nat → TGs
  | [] => gNil
  | i :: is => gCons (gName i) (gNames is)
theorem setMany_names {K : Kx} {m : Mp} {B : Addr → Prop} {H : Hp} {Q : L2.St → Hp → Prop} : ∀ {is : List Nat} {xs : List P} {vs : List V} {e e' : Env} {σ : L2.St}, Reps K H (Pr m B) xs vs → RelE K m B e σ H → setMany is xs e = some e' → (∀ σ', RelE K m B e' σ' H → Q σ' H) → gNames is vs σ H Q
  | [], [], vs, e, e', σ, r, hE, h, q => by
    cases h
    exact ⟨Reps.nil_iff.mp r, q σ hE⟩
  | [], x :: xs, vs, e, e', σ, r, hE, h, q => by cases h
  | i :: is, [], vs, e, e', σ, r, hE, h, q => by cases h
  | i :: is, x :: xs, vs, e, e', σ, r, hE, h, q => by
    obtain ⟨v, s, rfl, a, b⟩ := Reps.cons_iff.mp r
    exact ⟨v, s, rfl, setMany_names b (hE.set (d := .p x) a i) h q⟩
theorem setMany_len : ∀ {is : List Nat} {xs : List P} {e e' : Env}, setMany is xs e = some e' → is.length = xs.length
  | [], [], e, e', h => rfl
  | [], x :: xs, e, e', h => by cases h
  | i :: is, [], e, e', h => by cases h
  | i :: is, x :: xs, e, e', h => by simp [setMany_len (e := e.set i (some (.p x))) h]
theorem dg_tup {es : List Expr} {k : Nat} {is : List Nat} (hc : X.calm = true) (h : PGs X es (gNames is)) (hn : (assignEach es X.env).length = is.length) (hst : (assignEach es X.env).findIdx? (·.1) = none) : DG X (.Tuple es k pos) (.many is) :=
  PG.imp (pg_tup hc h hn hst) fun v σ H Q h => by
    obtain ⟨K, m, B, e, S, d, e', hK, hS, hE, r, q, h⟩ := h
    cases d with
    | ref l => cases q
    | exc c fs => cases q
    | p x =>
      cases x with
      | tup xs =>
        obtain ⟨a, vs, e1, sq, rp⟩ := r
        exact ⟨a, vs, e1, sq.sq, by rw [← rp.len, setMany_len q], setMany_names rp hE q h⟩
      | _ => cases q
/-- a target, to the letter -/
def gTg (K : PySem.W.Frag) : Tg → TG
  | .one i => gName i
  | .many is => gTup K is.length (gNames is)
def DGT (X : Cx) (target : Expr) (tg : Tg) : Prop := PG X target (gTg X.K tg)
theorem dgt_name {i : Nat} {x : Str} (hN : X.N.Nodup) (hi : X.N[i]? = some x) (hx : Loc X.env.scope x) (hf : X.fn x = true ∨ X.env.scope.names.lookup x = some .local) : DGT X (.Name x pos) (.one i) := pg_name hN hi hx hf
theorem dgt_tup {es : List Expr} {k : Nat} {is : List Nat} (hc : X.calm = true) (h : PGs X es (gNames is)) (hn : (assignEach es X.env).length = is.length) (hst : (assignEach es X.env).findIdx? (·.1) = none) : DGT X (.Tuple es k pos) (.many is) := pg_tup hc h hn hst
theorem ds_asg {tg a : Expr} {t : Tg} {i : IE} (ha : DE X cl W a (evE rn i)) (hg : DG X tg t) (hs : swapsWithSole [tg] a pos.line X.env = pure false) (hw : swappedStores [tg] a X.env = pure none) (h1 : (assignEach [tg] X.env).map (·.2) = [assign tg X.env]) :
    DS X cl W (.Assign [tg] a pos) (evS rn w (.asg t i)) := PS.imp (ps_asg ha hg hs hw h1) fun D σ H h => by
  obtain ⟨m, B, e, S, hS, hE, h⟩ := h
  simp only [evS] at h
  refine tS_bind hS hE h fun d S1 m1 H1 v x1 hS1 hE1 r1 h1 eq1 => ?_
  cases q : assignTg t d S1 e with
  | none => rw [q] at h1; exact h1.elim
  | some e' =>
    rw [q] at h1
    exact ⟨kx X cl, m1, B, e, S1, d, e', rfl, hS1, hE1, r1, q, fun σ' re => h1 m1 H1 σ' .refl hS1 re⟩
theorem ds_par {i j : Nat} {x y : Str} {a b : Expr} {is : IEs} {px py pt : Pos} {kt k2 pt2} (hc : X.calm = true) (hN : X.N.Nodup) (hi : X.N[i]? = some x) (hj : X.N[j]? = some y) (hij : i ≠ j)
    (hx : X.env.scope.names.lookup x = some .local) (hy : X.env.scope.names.lookup y = some .local) (ha : DA X cl W [a, b] (evEs rn is))
    (hw : swappedStores [.Tuple [.Name x px, .Name y py] kt pt] (.Tuple [a, b] k2 pt2) X.env = pure (some [x, y]))
    (hs : swapsWithSole [.Tuple [.Name x px, .Name y py] kt pt] (.Tuple [a, b] k2 pt2) pos.line X.env = pure false) :
    DS X cl W (.Assign [.Tuple [.Name x px, .Name y py] kt pt] (.Tuple [a, b] k2 pt2) pos) (evS rn w (.asg (.many [i, j]) (.pk tupP is))) := PS.imp (ps_par hc hN hi hj hij hx hy ha hw hs) fun D σ H h => by
  obtain ⟨m, B, e, S, hS, hE, h⟩ := h
  simp only [evS] at h
  rw [ev_pk] at h
  have go_bind : ∀ {α β : Type} (r : R α) (k : α → Store → R β) (k2 : β → Store → RS), (r.bind k).go e k2 = r.go e fun a S => (k a S).go e k2 := fun r k k2 => by cases r <;> rfl
  rw [go_bind] at h
  refine tS_bind hS hE h fun ds S1 m1 H1 vs x1 hS1 hE1 r1 h1 eq1 => ?_
  unfold pkK at h1
  cases q : pures ds with
  | none => rw [q] at h1; exact h1.elim
  | some xs =>
    rw [q] at h1
    have hnp : isPairs xs = false := by
      cases z : isPairs xs with
      | false => rfl
      | true =>
        simp only [tupP, z] at h1
        exact h1.elim
    simp only [tupP, hnp, Bool.false_eq_true, if_false, R.go_ok, assignTg] at h1
    have rp := RepDs.pure r1 q
    match xs, rp, h1 with
    | [x1, x2], rp, h1 =>
      obtain ⟨v, s, e1, p1, p2⟩ := Reps.cons_iff.mp rp
      obtain ⟨v2, s2, e2, p3, p4⟩ := Reps.cons_iff.mp p2
      rw [Reps.nil_iff] at p4
      subst p4 e2
      refine ⟨v, v2, e1, ?_⟩
      simp only [setMany] at h1
      exact h1 m1 H1 _ .refl hS1 ((hE1.set (d := .p x1) p1 i).set (d := .p x2) p3 j)
    | [], rp, h1 => simp only [setMany] at h1; exact h1.elim
    | [_], rp, h1 => simp only [setMany] at h1; exact h1.elim
    | _ :: _ :: _ :: _, rp, h1 => simp only [setMany] at h1; exact h1.elim

/-! ### for, while -/
/-- an iterator goes along the items of what xs are -/
def Goes (K : PySem.W.Frag) (J : It) (xs : List P) (vs : List V) (items : List P) : Prop :=
  ∀ (i : Nat) (H : Hp) (pr : Addr → Prop), (∀ a, pr a → H a ≠ none) → RepTs K H pr xs vs →
    (∀ x, items[i]? = some x → J.go i H ∧ ∀ v H', J.yld i H v H' → Same H H' ∧ Rep K H' pr x v) ∧ (items.length ≤ i → J.stop i H)
def itemsK (f : List P → Option (List P)) (ds : List D) (S : Store) : R (List D × List P × List P) := match vals S ds with
    | some xs => (match f xs with
      | some items => .ok (ds, xs, items) S
      | none => .no)
    | none => .no
def rI_ (K : Kx) : Rp (List D × List P × List P) (List V × It) := fun H m B t u => RepDs K H m B t.1 u.1 ∧ Goes K u.2 t.2.1 u.1 t.2.2 ∧ t.2.2.length ≤ sizeLine
def tI (K : Kx) (cl : Cls_) (W : WX) (f : List P → Option (List P)) (g : Env → Store → R (List D)) : TI := fun σ H R => tG K cl W (rI_ K) (fun e S => (g e S).bind (itemsK f)) σ H fun u H' => R u.2 H'
def DI (X : Cx) (cl : Cls_) (W : WX) (tg iter : Expr) (f : List P → Option (List P)) (g : Env → Store → R (List D)) : Prop := PI X tg iter (tI (kx X cl) cl W f g)
theorem PI.imp {X : Cx} {tg e : Expr} {t t' : TI} (h : PI X tg e t) (i : ∀ σ H R, t' σ H R → t σ H R) : PI X tg e t' := ⟨fun pins s σ H R I q => h.run pins s σ H R I (i σ H R q)⟩
def forBody (rn : Rn) (w : Nat) (tg : Tg) (b : ISs) (x : P) (e1 : Env) (S2 : Store) : RS := match assignTg tg (.p x) S2 e1 with
          | some e2 => evSs rn w b e2 S2
          | none => .no
theorem ev_for (tg : Tg) (f : List P → Option (List P)) (es : IEs) (b : ISs) (e : Env) (S : Store) : evS rn w (.for_ tg f es b) e S = ((evEs rn es e S).bind (itemsK f)).go e fun t S1 => forL (fun S2 => decide (vals S2 t.1 = some t.2.1)) (forBody rn w tg b) t.2.2 e S1 := by
  simp only [evS]
  cases evEs rn es e S with
  | ok ds S1 =>
    simp only [R.bind_ok, R.go_ok]
    unfold itemsK
    cases q : vals S1 ds with
    | none => rfl
    | some xs =>
      dsimp only
      cases f xs with
      | none => rfl
      | some items => rfl
  | ex c fs S1 => rfl
  | no => rfl
theorem ds_for {tg iter : Expr} {body : List Stmt} {t : Tg} {f : List P → Option (List P)} {is : IEs} {b : ISs} (hp : PassesOwn (model X.prog X.w) X.A X.env X.xe) (hc : X.calm = true) (hi : DI X cl W tg iter f (evEs rn is)) (hg : DG X tg t) (hb : DSs X cl W body (evSs rn w b))
    (hs : ∀ x, foldedSetIterable iter X.env x = pure x) : DS X cl W (.For tg iter body [] pos) (evS rn w (.for_ t f is b)) := PS.imp (ps_for hp hc hi hg hb hs) fun D σ H h => by
  obtain ⟨m, B, e, S, hS, hE, h⟩ := h
  rw [ev_for] at h
  refine tS_bind (f := fun e S => (evEs rn is e S).bind (itemsK f)) hS hE h fun tt S1 m1 H1 u x1 hS1 hE1 r1 h1 eq1 => ?_
  obtain ⟨ds, xs, items⟩ := tt
  obtain ⟨vs, J⟩ := u
  obtain ⟨rds, go, _⟩ := r1
  dsimp only at rds go h1
  refine ⟨fun i k σ2 H2 => k = items.length - i ∧ i ≤ items.length ∧ ∃ m2 e2 S2, Ext m1 H1 m2 H2 ∧ RelS (kx X cl) m2 B S2 H2 ∧ RelE (kx X cl) m2 B e2 σ2 H2 ∧ EndS (kx X cl) cl W m2 B H2 (forL (fun S2 => decide (vals S2 ds = some xs)) (forBody rn w t b) (items.drop i) e2 S2) D,
    ⟨items.length, by simp, Nat.zero_le _, m1, e, S1, .refl, hS1, hE1, h1⟩, ?_⟩
  rintro i k σ2 H2 ⟨rfl, hle, m2, e2, S2, x2, hS2, hE2, h2⟩
  have hchk : vals S2 ds = some xs := by
    cases q : items.drop i with
    | nil =>
      rw [q] at h2
      unfold forL at h2
      by_cases c : vals S2 ds = some xs
      · exact c
      · rw [if_neg (by simp [c])] at h2; exact h2.elim
    | cons y ys =>
      rw [q] at h2
      unfold forL at h2
      by_cases c : vals S2 ds = some xs
      · exact c
      · rw [if_neg (by simp [c])] at h2; exact h2.elim
  have G := go i H2 (Pr m2 B) (fun a p => hS2.pr p) ((x2.repDs rds).top hS2 hchk)
  by_cases hlt : i < items.length
  · right
    have q : items.drop i = items[i] :: items.drop (i + 1) := List.drop_eq_getElem_cons hlt
    rw [q] at h2
    unfold forL at h2
    rw [if_pos (by simp [hchk])] at h2
    obtain ⟨g1, g2⟩ := G.1 items[i] (List.getElem?_eq_getElem hlt)
    refine ⟨g1, fun σ' H' => ∃ m3 e3 S3, Ext m1 H1 m3 H' ∧ RelS (kx X cl) m3 B S3 H' ∧ RelE (kx X cl) m3 B e3 σ' H' ∧ EndS (kx X cl) cl W m3 B H' (forL (fun S2 => decide (vals S2 ds = some xs)) (forBody rn w t b) (items.drop (i + 1)) e3 S3) D, fun σ' H' hN => ?_, fun x H' hy => ?_⟩
    · exact ⟨items.length - (i + 1), by omega, rfl, by omega, hN⟩
    · obtain ⟨sm, rx⟩ := g2 x H' hy
      have x3 : Ext m2 H2 m2 H' := .same sm
      have hS3 := hS2.same sm
      have hE3 := x3.relE hE2
      cases qa : assignTg t (.p items[i]) S2 e2 with
      | none =>
        simp only [forBody, qa] at h2
        exact h2.elim
      | some e3 =>
        simp only [forBody, qa] at h2
        refine ⟨kx X cl, m2, B, e2, S2, .p items[i], e3, rfl, hS3, hE3, rx, qa, fun σ3 hE4 => ⟨m2, B, e3, S2, hS3, hE4, ?_⟩⟩
        have h3 := EndS.ext x3 h2
        cases qb : evSs rn w b e3 S2 with
        | nx e4 S4 =>
          rw [qb] at h3
          exact fun m' H'' σ' x' rs re => ⟨m', e4, S4, (x2.trans x3).trans x', rs, re, EndS.ext x' h3⟩
        | ct e4 S4 =>
          rw [qb] at h3
          exact fun m' H'' σ' x' rs re => ⟨m', e4, S4, (x2.trans x3).trans x', rs, re, EndS.ext x' h3⟩
        | bk e4 S4 =>
          rw [qb] at h3
          exact h3
        | ret d S4 => rw [qb] at h3; exact h3
        | ex c fs e4 S4 => rw [qb] at h3; exact h3
        | no => rw [qb] at h3; exact h3
  · left
    have hi : i = items.length := by omega
    refine ⟨G.2 (by omega), ?_⟩
    rw [List.drop_eq_nil_of_le (by omega)] at h2
    unfold forL at h2
    rw [if_pos (by simp [hchk])] at h2
    exact h2 m2 H2 σ2 .refl hS2 hE2
theorem ev_whl (t : IE) (b : ISs) (n : Nat) (e : Env) (S : Store) : whlL (fun e S => evE rn t e S) (fun e S => evSs rn w b e S) (n + 1) e S = (testD (evE rn t e S)).go e fun c S1 => if c then
      (match evSs rn w b e S1 with
        | .nx e1 S2 => whlL (fun e S => evE rn t e S) (fun e S => evSs rn w b e S) n e1 S2
        | .ct e1 S2 => whlL (fun e S => evE rn t e S) (fun e S => evSs rn w b e S) n e1 S2
        | .bk e1 S2 => .nx e1 S2
        | .ret d S2 => .ret d S2
        | .ex c fs e1 S2 => .ex c fs e1 S2
        | .no => .no) else .nx e S1 := by
  simp only [testD]
  rw [whlL]
  cases evE rn t e S with
  | ok d S1 =>
    simp only [R.bind_ok, R.go_ok]
    cases trueD d with
    | none => rfl
    | some c => cases c <;> rfl
  | ex c fs S1 => rfl
  | no => rfl
theorem ds_while {c : Expr} {body : List Stmt} {t : IE} {b : ISs} (hp : PassesOwn (model X.prog X.w) X.A X.env X.xe) (hc : DT X cl W c (evE rn t)) (hb : DSs X cl W body (evSs rn w b)) : DS X cl W (.While c body [] pos) (evS rn w (.whl t b)) := PS.imp (ps_while hp hc hb) fun D σ H h => by
  obtain ⟨m, B, e, S, hS, hE, h⟩ := h
  simp only [evS] at h
  refine ⟨fun k σ2 H2 => ∃ m2 e2 S2, RelS (kx X cl) m2 B S2 H2 ∧ RelE (kx X cl) m2 B e2 σ2 H2 ∧ EndS (kx X cl) cl W m2 B H2 (whlL (fun e S => evE rn t e S) (fun e S => evSs rn w b e S) k e2 S2) D, ⟨w, m, e, S, hS, hE, h⟩, ?_⟩
  rintro k σ2 H2 ⟨m2, e2, S2, hS2, hE2, h2⟩
  cases k with
  | zero => exact h2.elim
  | succ k =>
    rw [ev_whl] at h2
    refine tS_bind hS2 hE2 h2 fun d S3 m3 H3 v x3 hS3 hE3 r3 h3 eq3 => ?_
    cases r3
    cases d with
    | false =>
      rw [if_neg Bool.false_ne_true] at h3 ⊢
      exact h3 m3 H3 σ2 .refl hS3 hE3
    | true =>
      rw [if_pos rfl] at h3 ⊢
      refine ⟨fun σ' H' => ∃ m4 e4 S4, RelS (kx X cl) m4 B S4 H' ∧ RelE (kx X cl) m4 B e4 σ' H' ∧ EndS (kx X cl) cl W m4 B H' (whlL (fun e S => evE rn t e S) (fun e S => evSs rn w b e S) k e4 S4) D, fun σ' H' hN => ⟨k, Nat.lt_succ_self k, hN⟩, m3, B, e2, S3, hS3, hE3, ?_⟩
      cases qb : evSs rn w b e2 S3 with
      | nx e4 S4 =>
        rw [qb] at h3
        exact fun m' H'' σ' x' rs re => ⟨m', e4, S4, rs, re, EndS.ext x' h3⟩
      | ct e4 S4 =>
        rw [qb] at h3
        exact fun m' H'' σ' x' rs re => ⟨m', e4, S4, rs, re, EndS.ext x' h3⟩
      | bk e4 S4 => rw [qb] at h3; exact h3
      | ret d S4 => rw [qb] at h3; exact h3
      | ex c fs e4 S4 => rw [qb] at h3; exact h3
      | no => rw [qb] at h3; exact h3
end
end DL

set_option maxRecDepth 100000
set_option maxHeartbeats 1000000
/-! DC: comprehensions; a def by its body -/
namespace DL
open PySem PySem.Spec PyProof.Rows L2
section
variable {K : Kx} {m m1 : Mp} {B : Addr → Prop} {σ : L2.St} {H H1 : Hp} {S : Store} {e : Env} {p : Addr}
theorem Rep.ban {pr : Addr → Prop} (np : H p = none) {x : P} {v : V} (h : Rep K H pr x v) : Rep K H (fun a => pr a ∨ a = p) x v := h.mono (fun a u n rd => ⟨rd, fun z => z.elim n fun z => by
  rw [z, np] at rd
  cases rd⟩) fun _ _ _ e => e
theorem RepD.ban (np : H p = none) : ∀ {d : D} {v : V}, RepD K H m B d v → RepD K H m (fun a => B a ∨ a = p) d v
  | .p x, v, h => (Rep.ban np h).less fun a z => z.elim (fun z => .inl (.inl z)) fun z => z.elim (fun z => .inl (.inr z)) .inr
  | .ref l, v, h => h
  | .exc c fs, v, ⟨g, e1, e2, e3, e4⟩ => ⟨g, e1, e2, e3, e4.mono (fun a u n rd => ⟨rd, fun z => z.elim (fun z => n (.inl z)) fun z => z.elim (fun z => n (.inr z)) fun z => by
    rw [z, np] at rd
    cases rd⟩) fun _ _ _ e => e⟩
theorem RepDs.ban (np : H p = none) : ∀ {ds : List D} {vs : List V}, RepDs K H m B ds vs → RepDs K H m (fun a => B a ∨ a = p) ds vs
  | [], vs, h => h
  | d :: r, vs, h => by
    obtain ⟨v, s, rfl, a, b⟩ := h
    exact ⟨v, s, rfl, a.ban np, RepDs.ban np b⟩
theorem RelE.ban (h : RelE K m B e σ H) (np : H p = none) : RelE K m (fun a => B a ∨ a = p) e σ H := ⟨h.len, fun i d q => by
  obtain ⟨v, q1, q2⟩ := h.at_ i d q
  exact ⟨v, q1, q2.ban np⟩⟩
/-- what is banned may change -/
theorem mono_ban {pr : Addr → Prop} {xs ws : List V} (hp : pr p) (e : H p = some (.lst xs)) : (∀ a u, ¬ pr a → H a = some u → (upd H p (.lst ws)) a = some u ∧ ¬ pr a) ∧ ∀ a w, TupU w → H a = some w → (upd H p (.lst ws)) a = some w := by
  refine ⟨fun a u n r => ⟨(upd_ne (fun z => n (by rw [z]; exact hp))).trans r, n⟩, fun a w t r => (upd_ne (fun z => ?_)).trans r⟩
  subst z
  rw [e] at r
  cases r
  rcases t with ⟨_, t⟩ | ⟨_, _, t⟩ <;> cases t
theorem RelS.upd_ban {xs ws : List V} (r : RelS K m B S H) (hp : B p) (e : H p = some (.lst xs)) : RelS K m B S (upd H p (.lst ws)) where
  len := r.len
  inj := r.inj
  ob := fun i a ea => by
    obtain ⟨h1, h2⟩ := mono_ban (ws := ws) (pr := Pr m B) (.inr hp) e
    have hne : a ≠ p := fun z => (r.bd p hp).2 (z ▸ List.mem_of_getElem? ea)
    obtain ⟨o, q, q2⟩ := r.ob i a ea
    refine ⟨o, q, ?_⟩
    have hds : ∀ {ds : List D} {vs : List V}, RepDs K H m B ds vs → RepDs K (upd H p (.lst ws)) m B ds vs := by
      intro ds
      induction ds with
      | nil => exact fun r => r
      | cons d ds ih =>
        intro vs r
        obtain ⟨v, s, rfl, a, b⟩ := r
        refine ⟨v, s, rfl, ?_, ih b⟩
        cases d with
        | p x => exact Rep.mono h1 h2 _ _ a
        | ref l => exact a
        | exc c fs =>
          obtain ⟨g, e1, e2, e3, e4⟩ := a
          exact ⟨g, e1, e2, e3, e4.mono h1 h2⟩
    cases o with
    | lst xs =>
      obtain ⟨vs, e, h⟩ := q2
      exact ⟨vs, by rw [upd_ne hne]; exact e, Reps.mono h1 h2 _ _ h⟩
    | dic kvs =>
      obtain ⟨vs, u, e, d, h⟩ := q2
      exact ⟨vs, u, by rw [upd_ne hne]; exact e, d, Reps.mono h1 h2 _ _ h⟩
    | dir kvs =>
      obtain ⟨vs, u, e, d, h⟩ := q2
      exact ⟨vs, u, by rw [upd_ne hne]; exact e, d, hds h⟩
    | dead => exact q2.elim
  dead := r.dead
  bd := fun a z => by
    refine ⟨?_, (r.bd a z).2⟩
    by_cases h : a = p
    · subst h
      rw [upd_same]
      exact fun z => nomatch z
    · rw [upd_ne h]
      exact (r.bd a z).1
theorem Ext.upd_new {o : HO} (x : Ext m H m1 H1) (np : H p = none) (h1 : H1 p ≠ none) : Ext m H m1 (upd H1 p o) where
  len := x.len
  keep := x.keep
  obj := fun a u n e => by
    have : a ≠ p := fun z => by rw [z, np] at e; cases e
    rw [upd_ne this]
    exact x.obj a u n e
  tup := fun a w t r => by
    have : a ≠ p := fun z => by rw [z, np] at r; cases r
    rw [upd_ne this]
    exact x.tup a w t r
  dom := fun a e => by
    have : a ≠ p := fun z => e (z ▸ np)
    rw [upd_ne this]
    exact x.dom a e
theorem wipe_len (σ : L2.St) (vs : List Nat) : (L2.wipe σ vs).length = σ.length := L2.wipe_length σ vs
theorem wipe_set : ∀ {vs : List Nat} {σ : L2.St} {i : Nat} {y : Option V}, i ∈ vs → L2.wipe (σ.set i y) vs = L2.wipe σ vs
  | v :: vs, σ, i, y, h => by
    by_cases hv : i ∈ vs
    · show (L2.wipe (σ.set i y) vs).set v none = (L2.wipe σ vs).set v none
      rw [wipe_set hv]
    · have e : i = v := (List.mem_cons.mp h).resolve_right hv
      subst e
      show (L2.wipe (σ.set i y) vs).set i none = (L2.wipe σ vs).set i none
      have out : ∀ {vs : List Nat} {σ : L2.St}, i ∉ vs → L2.wipe (σ.set i y) vs = (L2.wipe σ vs).set i y := by
        intro vs
        induction vs with
        | nil => intro σ _; rfl
        | cons u us ih =>
          intro σ hn
          show (L2.wipe (σ.set i y) us).set u none = ((L2.wipe σ us).set u none).set i y
          rw [ih (fun z => hn (List.mem_cons_of_mem _ z)), List.set_comm _ _ (by intro z; apply hn; simp [z])]
      rw [out hv, List.set_set]
theorem wipe_wipe : ∀ {vs us : List Nat} {σ : L2.St}, (∀ i ∈ us, i ∈ vs) → L2.wipe (L2.wipe σ us) vs = L2.wipe σ vs
  | vs, [], σ, h => rfl
  | vs, u :: us, σ, h => by
    show L2.wipe ((L2.wipe σ us).set u none) vs = _
    rw [wipe_set (h u List.mem_cons_self), wipe_wipe fun i hi => h i (List.mem_cons_of_mem _ hi)]
theorem gNames_wipe {vs : List Nat} {Q : L2.St → Hp → Prop} : ∀ {is : List Nat} {xs : List P} {ws : List V} {e e' : Env} {σ : L2.St}, (∀ i ∈ is, i ∈ vs) → Reps K H (Pr m B) xs ws → RelE K m B e σ H → setMany is xs e = some e' → (∀ σ', RelE K m B e' σ' H → L2.wipe σ' vs = L2.wipe σ vs → Q σ' H) → gNames is ws σ H Q
  | [], [], ws, e, e', σ, hi, r, hE, h, q => by
    cases h
    exact ⟨Reps.nil_iff.mp r, q σ hE rfl⟩
  | [], x :: xs, ws, e, e', σ, hi, r, hE, h, q => by cases h
  | i :: is, [], ws, e, e', σ, hi, r, hE, h, q => by cases h
  | i :: is, x :: xs, ws, e, e', σ, hi, r, hE, h, q => by
    obtain ⟨v, s, rfl, a, b⟩ := Reps.cons_iff.mp r
    refine ⟨v, s, rfl, gNames_wipe (fun j hj => hi j (List.mem_cons_of_mem _ hj)) b (hE.set (d := .p x) a i) h fun σ' re ew => q σ' re ?_⟩
    rw [ew, wipe_set (hi i List.mem_cons_self)]
def Tg.slots : Tg → List Nat
  | .one i => [i]
  | .many is => is
theorem gTg_wipe {vs : List Nat} {Q : L2.St → Hp → Prop} {tg : Tg} {x : P} {v : V} {e e' : Env} {σ : L2.St} (hi : ∀ i ∈ tg.slots, i ∈ vs) (r : Rep K H (Pr m B) x v) (hE : RelE K m B e σ H) (h : assignTg tg (.p x) S e = some e') (q : ∀ σ', RelE K m B e' σ' H → L2.wipe σ' vs = L2.wipe σ vs → Q σ' H) : gTg K tg v σ H Q := by
  cases tg with
  | one i =>
    cases h
    exact q _ (hE.set (d := .p x) r i) (wipe_set (hi i List.mem_cons_self))
  | many is =>
    cases x with
    | tup xs =>
      obtain ⟨a, ws, e1, sq, rp⟩ := r
      exact ⟨a, ws, e1, sq.sq, by rw [← rp.len, setMany_len h], gNames_wipe hi rp hE h q⟩
    | _ => cases h
end
def W0 : WX := fun _ _ _ _ => False
section
variable {X : Cx} {cl : Cls_} {W : WX} {rn : Rn} {w : Nat} {pos : Pos}
def cpStep (rn : Rn) (vs : List Nat) (tg : Tg) (cd elt : IE) (e : Env) (x : P) (S2 : Store) : R (Option P) :=
          match assignTg tg (.p x) S2 (wipeD e vs) with
          | some e1 => (evE rn cd e1 S2).bind fun t S3 =>
            (match trueD t with
            | some true => (evE rn elt e1 S3).bind fun d S4 =>
              (match d with
              | .p y => .ok (some y) S4
              | _ => .no)
            | some false => .ok none S3
            | none => .no)
          | none => .no
theorem ev_comp (vs : List Nat) (tg : Tg) (f : List P → Option (List P)) (es : IEs) (cd elt : IE) (e : Env) (S : Store) : evE rn (.comp vs tg f es cd elt) e S = ((evEs rn es e S).bind (itemsK f)).bind fun t S1 =>
    (compL (fun S2 => decide (vals S2 t.1 = some t.2.1)) (cpStep rn vs tg cd elt e) t.2.2 S1).bind fun ys S2 => .ok (.p (.lst ys)) S2 := by
  simp only [evE]
  cases evEs rn es e S with
  | ok ds S1 =>
    simp only [R.bind_ok]
    unfold itemsK
    cases q : vals S1 ds with
    | none => rfl
    | some xs =>
      dsimp only
      cases f xs with
      | none => rfl
      | some items => rfl
  | ex c fs S1 => rfl
  | no => rfl
/-- the comprehension's reading -/
theorem tLc_of {K : Kx} {vs : List Nat} {tg : Tg} {f : List P → Option (List P)} {is : IEs} {cd elt : IE} (hi : ∀ i ∈ tg.slots, i ∈ vs) {σ : L2.St} {H : Hp} {Q : VK} (h : tF K cl W (evE rn (.comp vs tg f is cd elt)) σ H Q) :
    tLc (tI K cl W f (evEs rn is)) (gTg K tg) (tG K cl W0 rB fun e S => testD (evE rn cd e S)) (tG K cl W0 (rD K) (evE rn elt)) vs σ H Q := by
  obtain ⟨m, B, e, S, hS, hE, h⟩ := of_tF h
  rw [ev_comp] at h
  refine tG_bindF (f := fun e S => (evEs rn is e S).bind (itemsK f)) hS hE h fun tt S1 m1 H1 u x1 hS1 hE1 r1 h1 eq1 => ?_
  obtain ⟨ds, xs, items⟩ := tt
  obtain ⟨ws, J⟩ := u
  obtain ⟨rds, go, hlen⟩ := r1
  dsimp only at rds go h1 hlen
  intro D nD
  have hE1' : RelE K m1 (fun a => B a ∨ a = D) e σ H1 := hE1.ban nD
  have hDm1 : some D ∉ m1 := fun z => hS1.live z nD
  refine ⟨fun i k Hc => k = items.length - i ∧ i ≤ items.length ∧ ∃ m2 S2 acc ys, Ext m1 H1 m2 Hc ∧ RelS K m2 (fun a => B a ∨ a = D) S2 Hc ∧ Hc D = some (.lst acc) ∧ Reps K Hc (Pr m2 fun a => B a ∨ a = D) ys acc ∧ ys.length ≤ i ∧
      EndF K cl W m1 B σ H1 ((compL (fun S2 => decide (vals S2 ds = some xs)) (cpStep rn vs tg cd elt e) (items.drop i) S2).bind fun zs S' => .ok (.p (.lst (ys ++ zs))) S') Q,
    ⟨items.length, by simp, Nat.zero_le _, m1, S1, [], [], .same (Same.new nD), hS1.ban nD (Same.new nD) (by rw [upd_same]; exact fun z => nomatch z), upd_same, Reps.nil_iff.mpr rfl, Nat.le_refl _, h1⟩, ?_⟩
  rintro i k Hc ⟨rfl, hle, m2, S2, acc, ys, x2, hS2, eD, rys, hys, h2⟩
  have rds2 : RepDs K Hc m2 B ds ws := x2.repDs rds
  have hS2' : RelS K m2 B S2 Hc := hS2.less fun a z => .inl z
  have rds3 : RepDs K Hc m2 (fun a => B a ∨ a = D) ds ws := x2.repDs (RepDs.ban nD rds)
  have hchk : vals S2 ds = some xs := by
    cases q : items.drop i with
    | nil =>
      rw [q] at h2
      unfold compL at h2
      by_cases c : vals S2 ds = some xs
      · exact c
      · rw [if_neg (by simp [c])] at h2; exact h2.elim
    | cons y zs =>
      rw [q] at h2
      unfold compL at h2
      by_cases c : vals S2 ds = some xs
      · exact c
      · rw [if_neg (by simp [c])] at h2; exact h2.elim
  have G := go i Hc (Pr m2 fun a => B a ∨ a = D) (fun a p => hS2.pr p) (rds3.top hS2 hchk)
  by_cases hlt : i < items.length
  · right
    have q : items.drop i = items[i] :: items.drop (i + 1) := List.drop_eq_getElem_cons hlt
    rw [q] at h2
    unfold compL at h2
    rw [if_pos (by simp [hchk])] at h2
    obtain ⟨g1, g2⟩ := G.1 items[i] (List.getElem?_eq_getElem hlt)
    refine ⟨g1, fun H' => ∃ m3 S3 acc ys, Ext m1 H1 m3 H' ∧ RelS K m3 (fun a => B a ∨ a = D) S3 H' ∧ H' D = some (.lst acc) ∧ Reps K H' (Pr m3 fun a => B a ∨ a = D) ys acc ∧ ys.length ≤ i + 1 ∧
      EndF K cl W m1 B σ H1 ((compL (fun S2 => decide (vals S2 ds = some xs)) (cpStep rn vs tg cd elt e) (items.drop (i + 1)) S3).bind fun zs S' => .ok (.p (.lst (ys ++ zs))) S') Q, fun H' hN => ⟨items.length - (i + 1), by omega, rfl, by omega, hN⟩, fun x H' hy => ?_⟩
    obtain ⟨sm, rx⟩ := g2 x H' hy
    have x3 : Ext m2 Hc m2 H' := .same sm
    have hS3 := hS2.same sm
    have hE3 : RelE K m2 (fun a => B a ∨ a = D) e σ H' := x3.relE (x2.relE hE1')
    cases qs : cpStep rn vs tg cd elt e items[i] S2 with
    | ex c fs S3 => rw [qs] at h2; exact h2.elim
    | no => rw [qs] at h2; exact h2.elim
    | ok o S3 =>
      rw [qs] at h2
      dsimp only at h2
      rw [R.bind_assoc] at h2
      simp only [R.bind_ok] at h2
      unfold cpStep at qs
      cases qa : assignTg tg (.p items[i]) S2 (wipeD e vs) with
      | none => rw [qa] at qs; cases qs
      | some e1 =>
        rw [qa] at qs
        dsimp only at qs
        refine gTg_wipe (vs := vs) hi rx (hE3.wipe vs) qa fun σ2 hE4 ew => ⟨by rw [ew, wipe_wipe fun i h => h], m2, _, e1, S2, hS3, hE4, ?_⟩
        cases qc : evE rn cd e1 S2 with
        | ex c fs S4 => rw [qc] at qs; cases qs
        | no => rw [qc] at qs; cases qs
        | ok t S4 =>
          rw [qc, R.bind_ok] at qs
          simp only [testD, qc, R.bind_ok]
          cases qt : trueD t with
          | none => rw [qt] at qs; cases qs
          | some b =>
            rw [qt] at qs
            intro m4 H4 b' x4 hS4 rb
            cases rb
            have mem4 : some D ∉ m4 := (hS4.bd D (.inr rfl)).2
            cases b with
            | false =>
              cases qs
              rw [if_neg Bool.false_ne_true]
              refine ⟨m4, _, acc, ys, (x2.trans x3).trans x4, hS4, (x4.obj D _ (hS2.bd D (.inr rfl)).2 (sm _ _ eD)).1, x4.reps (x3.reps rys), by omega, h2⟩
            | true =>
              rw [if_pos rfl]
              dsimp only at qs
              refine ⟨m4, _, e1, S4, hS4, x4.relE hE4, ?_⟩
              cases qe : evE rn elt e1 S4 with
              | ex c fs S5 => rw [qe] at qs; cases qs
              | no => rw [qe] at qs; cases qs
              | ok d S5 =>
                rw [qe, R.bind_ok] at qs
                cases d with
                | ref l => cases qs
                | exc c fs => cases qs
                | p y =>
                  cases qs
                  intro m5 H5 v x5 hS5 rv
                  have eD5 : H5 D = some (.lst acc) := (x5.obj D _ mem4 (x4.obj D _ (hS2.bd D (.inr rfl)).2 (sm _ _ eD)).1).1
                  have hacc : ys.length = acc.length := rys.len
                  refine ⟨acc, eD5, by omega, m5, S3, acc ++ [v], ys ++ [y], ?_, hS5.upd_ban (.inr rfl) eD5, upd_same, ?_, by simp; omega, ?_⟩
                  · exact (((x2.trans x3).trans x4).trans x5).upd_new nD (by rw [eD5]; exact fun z => nomatch z)
                  · obtain ⟨g1, g2⟩ := mono_ban (H := H5) (p := D) (ws := acc ++ [v]) (pr := Pr m5 fun a => B a ∨ a = D) (.inr (.inr rfl)) eD5
                    exact Reps.append (Reps.mono g1 g2 _ _ (x5.reps (x4.reps (x3.reps rys)))) (Reps.one (Rep.mono g1 g2 _ _ rv))
                  · simp only [List.append_assoc, List.singleton_append]
                    exact h2
  · left
    refine ⟨G.2 (by omega), ?_⟩
    rw [List.drop_eq_nil_of_le (by omega)] at h2
    unfold compL at h2
    rw [if_pos (by simp [hchk]), R.bind_ok, List.append_nil] at h2
    exact h2 m2 Hc D acc x2 nD hS2 eD rys
end
end DL

set_option maxRecDepth 100000
set_option maxHeartbeats 1000000
/-! DF: what is walked; comprehensions as expressions and statements; a def by its body -/
namespace DL
open PySem PySem.Spec PyProof.Rows L2
/-! ### what is walked -/
theorem getElem?_toArray' {x : List Nat} {i : Nat} : (strV x).cps[i]? = x[i]? := by simp [strV]
theorem goes_any {K : PySem.W.Frag} {J : It} {v : V} {xs items : List P} (hf : itemsP xs = some items)
    (h : (∃ a, v = .ref a ∧ J = Itl K a ∧ ∃ ys, xs = [.lst ys]) ∨ (∃ a, v = .ref a ∧ J = Itt K a ∧ ∃ ys, xs = [.tup ys]) ∨ (∃ x, v = .str (strV x) ∧ J = Its (strV x) ∧ xs = [.str x] ∧ okS x)) : Goes K J xs [v] items := by
  intro i H pr hp hr
  rcases h with ⟨a, rfl, rfl, ys, rfl⟩ | ⟨a, rfl, rfl, ys, rfl⟩ | ⟨x, rfl, rfl, rfl, hx⟩
  · cases hf
    obtain ⟨w, s, e1, ⟨b, vs, e2, rd, rp⟩, e3⟩ := hr
    cases e1
    cases e2
    have hq : SqL K H a vs := .of rd
    refine ⟨fun x ex => ?_, fun hi => ⟨vs, hq, by rw [← rp.len]; exact hi⟩⟩
    obtain ⟨u, eu, ru⟩ := rp.get ex
    refine ⟨⟨vs, u, hq, eu⟩, fun v' H' y => ?_⟩
    obtain ⟨rfl, hy⟩ := y
    have e := hy vs hq
    rw [eu] at e
    cases e
    exact ⟨Same.refl _, ru⟩
  · cases hf
    obtain ⟨w, s, e1, hr1, e3⟩ := hr
    cases e1
    obtain ⟨b, vs, e2, hq, rp⟩ := (show Rep K H pr (.tup _) (.ref a) from hr1)
    cases e2
    refine ⟨fun x ex => ?_, fun hi => ⟨vs, hq.sq, by rw [← rp.len]; exact hi⟩⟩
    obtain ⟨u, eu, ru⟩ := rp.get ex
    refine ⟨⟨vs, u, hq.sq, eu⟩, fun v' H' y => ?_⟩
    obtain ⟨rfl, hy⟩ := y
    have e := hy vs hq.sq
    rw [eu] at e
    cases e
    exact ⟨Same.refl _, ru⟩
  · cases hf
    have hsz : (strV x).cps.size = x.length := by simp [strV]
    refine ⟨fun y ey => ?_, fun hi => ?_⟩
    · rw [List.getElem?_map] at ey
      cases q : x[i]? with
      | none => rw [q] at ey; cases ey
      | some c =>
        rw [q] at ey
        cases ey
        have hi := (List.getElem?_eq_some_iff.mp q).1
        refine ⟨by show i < (strV x).cps.size; omega, fun v' H' y => ?_⟩
        obtain ⟨rfl, c', ec, rfl⟩ := y
        rw [getElem?_toArray', q] at ec
        cases ec
        exact ⟨Same.refl _, ⟨rfl, by show 1 ≤ sizeLine; rw [sizeLine_eq]; decide, fun d hd => hx.2 d (by rw [List.mem_singleton.mp hd]; exact List.mem_of_getElem? q)⟩⟩
    · show (strV x).cps.size ≤ i
      rw [List.length_map] at hi
      omega
section
variable {X : Cx} {cl : Cls_} {W : WX} {rn : Rn} {w : Nat} {pos : Pos}
/-- an expression that is walked: a list, a tuple, a text -/
def iAny (K : PySem.W.Frag) (tl : TE) : TI := fun σ H R => tl σ H fun x H1 =>
  (∃ a, x = .ref a ∧ (∃ xs, SqL K H1 a xs) ∧ ((∀ xs, SqL K H1 a xs → xs.length ≤ sizeLine) → R (Itl K a) H1)) ∨
  (∃ a, x = .ref a ∧ (∃ xs, SqT K H1 a xs) ∧ ((∀ xs, SqT K H1 a xs → xs.length ≤ sizeLine) → R (Itt K a) H1)) ∨
  (∃ z, x = .str z ∧ R (Its z) H1)
theorem pi_any {tg l : Expr} {tl : TE} (hl : PE X l tl) : PI X tg l (iAny X.K tl) := by
  refine ⟨fun pins s σ H R I h => ?_⟩
  refine thn (hl.run pins s σ H _ I h) fun v s1 ⟨x, H1, I1, r1, q1⟩ => ?_
  rcases q1 with ⟨a, e, ⟨xs, hq⟩, q⟩ | ⟨a, e, ⟨xs, hq⟩, q⟩ | ⟨z, e, q⟩
  · subst e
    cases r1
    obtain ⟨its, rv, p, hz⟩ := I1.list hq
    have q := q fun ys hy => by rw [I1.list_inj hy hq]; exact hz
    refine wpAny_pyIter_list p.isList ?_
    refine ⟨s1.heap.objs.size, [s1.heap.objs.size], _, _, H1, rfl, I1.kept (t' := s1.toks) fun b o e => Heap.get?_push_of_some _ e, turn_list a _, ⟨_, Heap.get?_push_size _ rfl, rfl, rfl⟩, fun b hb => ?_, q⟩
    have e : b = s1.heap.objs.size := by simpa using hb
    subst e
    exact I1.fpOk (Nat.le_refl _) (I1.hok.fresh (Nat.le_refl _))
  · subst e
    cases r1
    obtain ⟨its, rv, p, hz⟩ := I1.tuple hq
    have q := q fun ys hy => by rw [I1.tuple_inj hy hq]; exact hz
    refine wpAny_pyIter_tuple (show s1.heap.IsTuple a its.toArray from p) ?_
    refine ⟨s1.heap.objs.size, [s1.heap.objs.size], _, _, H1, rfl, I1.kept (t' := s1.toks) fun b o e => Heap.get?_push_of_some _ e, turn_tuple a _, ⟨_, Heap.get?_push_size _ rfl, rfl, rfl⟩, fun b hb => ?_, q⟩
    have e : b = s1.heap.objs.size := by simpa using hb
    subst e
    exact I1.fpOk (Nat.le_refl _) (I1.hok.fresh (Nat.le_refl _))
  · subst e
    obtain ⟨t, rfl⟩ := r1
    cases ha : z.cps.all (· < 128)
    · exact wpAny_pyIter_wide ha (pi_one (tk := s1.toks) I1 _ (turn_str _ z t "str_iterator" (.inr rfl)) ⟨_, Heap.get?_push_size _ rfl, rfl, rfl⟩ q)
    · exact wpAny_pyIter_ascii ha (pi_one (tk := s1.toks) I1 _ (turn_str _ z t "str_ascii_iterator" (.inl rfl)) ⟨_, Heap.get?_push_size _ rfl, rfl, rfl⟩ q)
theorem items_open {K : Kx} {α β : Type} {rep : Rp α β} {m : Mp} {B : Addr → Prop} {σ : L2.St} {H : Hp} {S : Store} {ds : List D} {f : List P → Option (List P)} {Q : (List V × It) → Hp → Prop} (h : EndG K cl W (rI_ K) m B σ H (itemsK f ds S) Q) :
    ∃ xs items, vals S ds = some xs ∧ f xs = some items ∧ EndG K cl W (rI_ K) m B σ H (.ok (ds, xs, items) S) Q := by
  unfold itemsK at h
  cases q : vals S ds with
  | none => rw [q] at h; exact h.elim
  | some xs =>
    rw [q] at h
    dsimp only at h
    cases q2 : f xs with
    | none => rw [q2] at h; exact h.elim
    | some items =>
      rw [q2] at h
      exact ⟨xs, items, rfl, q2, h⟩
theorem di_any {tg l : Expr} {i : IE} (hl : DE X cl W l (evE rn i)) : DI X cl W tg l itemsP (evEs rn (.cons i .nil)) := PI.imp (pi_any hl) fun σ H Rr h => by
  obtain ⟨m, B, e, S, hS, hE, h⟩ := h
  have h : EndG (kx X cl) cl W (rI_ (kx X cl)) m B σ H ((evEs rn (.cons i .nil) e S).bind (itemsK itemsP)) fun u H' => Rr u.2 H' := h
  simp only [evEs, R.bind_assoc, R.bind_ok] at h
  refine tG_bind hS hE h fun d S1 m1 H1 v x1 hS1 hE1 r1 h1 eq1 => ?_
  obtain ⟨xs, items, e1, e2, h2⟩ := items_open (rep := rD (kx X cl)) h1
  have rds : RepDs (kx X cl) H1 m1 B [d] [v] := ⟨v, [], rfl, r1, rfl⟩
  have rt := rds.top hS1 e1
  unfold itemsP at e2
  split at e2
  · rename_i ys
    cases e2
    obtain ⟨w', s', e3, ⟨a, vs, e4, rd, rp⟩, e5⟩ := rt
    cases e3
    subst e4
    refine .inl ⟨a, rfl, ⟨vs, .of rd⟩, fun hz => ?_⟩
    exact h2 m1 H1 ([.ref a], Itl X.K a) .refl hS1 ⟨rds, goes_any rfl (.inl ⟨a, rfl, rfl, _, rfl⟩), by rw [rp.len]; exact hz vs (.of rd)⟩
  · rename_i ys
    cases e2
    obtain ⟨w', s', e3, rt1, e5⟩ := rt
    obtain ⟨a, vs, e4, sq, rp⟩ := (show Rep X.K H1 (Pr m1 B) (.tup _) w' from rt1)
    cases e3
    subst e4
    refine .inr (.inl ⟨a, rfl, ⟨vs, sq.sq⟩, fun hz => ?_⟩)
    exact h2 m1 H1 ([.ref a], Itt X.K a) .refl hS1 ⟨rds, goes_any rfl (.inr (.inl ⟨a, rfl, rfl, _, rfl⟩)), (by show items.length ≤ sizeLine; rw [rp.len]; exact hz vs sq.sq)⟩
  · rename_i x
    cases e2
    obtain ⟨w', s', e3, ⟨e4, hx⟩, e5⟩ := rt
    cases e3
    subst e4
    refine .inr (.inr ⟨strV x, rfl, ?_⟩)
    exact h2 m1 H1 ([.str (strV x)], Its (strV x)) .refl hS1 ⟨rds, goes_any rfl (.inr (.inr ⟨x, rfl, rfl, rfl, hx⟩)), by rw [List.length_map]; exact hx.1⟩
  · cases e2
theorem goes_range {K : PySem.W.Frag} {lo : Int} {n : Nat} {xs : List P} {vs : List V} : Goes K (Itr lo n) xs vs (rangeL lo n) := by
  intro i H pr hp hr
  refine ⟨fun x ex => ?_, fun hi => by
    have : n ≤ i := by simpa [rangeL] using hi
    exact this⟩
  unfold rangeL at ex
  rw [List.getElem?_map] at ex
  cases q : (List.range n)[i]? with
  | none => rw [q] at ex; cases ex
  | some k =>
    rw [q] at ex
    cases ex
    obtain ⟨h1, h2⟩ := List.getElem?_eq_some_iff.mp q
    rw [List.getElem_range] at h2
    subst h2
    refine ⟨(by simpa using h1 : i < n), fun v H' y => ?_⟩
    obtain ⟨rfl, rfl⟩ := y
    exact ⟨Same.refl _, rfl⟩
theorem val_int {S : Store} {d : D} {i : Int} (h : val S d = some (.int i)) : d = .p (.int i) := by
  cases d with
  | p x => cases h; rfl
  | ref l =>
    dsimp only [val] at h
    cases q : S[l]? with
    | none => rw [q] at h; cases h
    | some o => rw [q] at h; cases o <;> cases h
  | exc c fs => cases h
theorem vals_cons {S : Store} {d : D} {r : List D} {xs : List P} (h : vals S (d :: r) = some xs) : ∃ x ys, xs = x :: ys ∧ val S d = some x ∧ vals S r = some ys := by
  unfold vals at h
  cases q : val S d with
  | none => rw [q] at h; cases h
  | some x =>
    cases q2 : vals S r with
    | none => rw [q, q2] at h; cases h
    | some ys =>
      rw [q, q2] at h
      cases h
      exact ⟨x, ys, rfl, rfl, rfl⟩
theorem vals_nil {S : Store} {ds : List D} (h : vals S ds = some []) : ds = [] := by
  cases ds with
  | nil => rfl
  | cons d r =>
    obtain ⟨x, ys, e, _⟩ := vals_cons h
    cases e
theorem di_range1 {tg a : Expr} {i : IE} {p : Pos} (hg : Gl X "range") (hm : X.mg "range" = none) (ha : DA X cl W [a] (evEs rn (.cons i .nil))) (hs : starEach [a] X.env = [(false, eval a X.env)]) : DI X cl W tg (.Call (.Name "range" p) [a] [] pos) range1P (evEs rn (.cons i .nil)) :=
  PI.imp (pi_range1 hg hm ha hs) fun σ H R h => by
    obtain ⟨m, B, e, S, hS, hE, h⟩ := h
    refine tG_bind hS hE h fun ds S1 m1 H1 vs x1 hS1 hE1 r1 h1 eq1 => ?_
    obtain ⟨xs, items, e1, e2, h2⟩ := items_open (rep := rD (kx X cl)) h1
    unfold range1P at e2
    split at e2
    · rename_i j
      split at e2
      · rename_i hj
        cases e2
        match ds, e1, r1 with
        | [d], e1, r1 =>
          obtain ⟨x, ys, e3, e4, e5⟩ := vals_cons e1
          cases e3
          have ed := val_int e4
          subst ed
          obtain ⟨v, s, rfl, rv, es⟩ := r1
          cases es
          cases rv
          refine ⟨j, rfl, by omega, by omega, ?_⟩
          exact h2 m1 H1 ([.int j], Itr 0 j.toNat) .refl hS1 ⟨⟨_, [], rfl, rfl, rfl⟩, goes_range, by simp [rangeL, sizeLine_eq]; omega⟩
        | [], e1, r1 => cases e1
        | _ :: _ :: _, e1, r1 =>
          obtain ⟨x, ys, e3, e4, e5⟩ := vals_cons e1
          cases e3
          obtain ⟨x, ys, e3, e4, e5⟩ := vals_cons e5
          cases e3
      · cases e2
    · cases e2
theorem di_range2 {tg a b : Expr} {i j : IE} {p : Pos} (hg : Gl X "range") (hm : X.mg "range" = none) (ha : DA X cl W [a, b] (evEs rn (.cons i (.cons j .nil)))) (hs : starEach [a, b] X.env = [(false, eval a X.env), (false, eval b X.env)]) (hs2 : starEach [b] X.env = [(false, eval b X.env)]) :
    DI X cl W tg (.Call (.Name "range" p) [a, b] [] pos) range2P (evEs rn (.cons i (.cons j .nil))) :=
  PI.imp (pi_range2 hg hm ha hs hs2) fun σ H R h => by
    obtain ⟨m, B, e, S, hS, hE, h⟩ := h
    refine tG_bind hS hE h fun ds S1 m1 H1 vs x1 hS1 hE1 r1 h1 eq1 => ?_
    obtain ⟨xs, items, e1, e2, h2⟩ := items_open (rep := rD (kx X cl)) h1
    unfold range2P at e2
    split at e2
    · rename_i lo hi
      split at e2
      · rename_i hj
        cases e2
        match ds, e1, r1 with
        | [d, d'], e1, r1 =>
          obtain ⟨x, ys, e3, e4, e5⟩ := vals_cons e1
          cases e3
          obtain ⟨x, ys, e6, e7, e8⟩ := vals_cons e5
          cases e6
          have ed := val_int e4
          subst ed
          have ed := val_int e7
          subst ed
          obtain ⟨v, s, rfl, rv, v', s', es, rv', es'⟩ := r1
          cases es'
          subst es
          cases rv
          cases rv'
          refine ⟨lo, hi, rfl, by omega, ?_⟩
          exact h2 m1 H1 ([.int lo, .int hi], Itr lo (hi - lo).toNat) .refl hS1 ⟨⟨_, _, rfl, rfl, _, [], rfl, rfl, rfl⟩, goes_range, by simp [rangeL, sizeLine_eq]; omega⟩
        | [], e1, r1 => cases e1
        | [_], e1, r1 =>
          obtain ⟨x, ys, e3, e4, e5⟩ := vals_cons e1
          cases e3
          cases e5
        | _ :: _ :: _ :: _, e1, r1 =>
          obtain ⟨x, ys, e3, e4, e5⟩ := vals_cons e1
          cases e3
          obtain ⟨x, ys, e3, e4, e5⟩ := vals_cons e5
          cases e3
          obtain ⟨x, ys, e3, e4, e5⟩ := vals_cons e5
          cases e3
      · cases e2
    · cases e2
/-! ### comprehensions -/
def DTs (X : Cx) (cl : Cls_) (W : WX) (ifs : List Expr) (f : Env → Store → R D) : Prop := PTs X ifs (tG (kx X cl) cl W rB fun e S => testD (f e S))
theorem dts_nil : DTs X cl W [] (evE rn (.c (.bl true))) := ⟨fun pins s σ H Q I h => by
  obtain ⟨m, B, e, S, hS, hE, h⟩ := h
  exact pts_nil.run pins s σ H Q I (EndG.here (rep := rB) h hS rfl)⟩
theorem dts_one {c : Expr} {f : Env → Store → R D} (h : DT X cl W c f) : DTs X cl W [c] f := pts_one h
theorem fe_comp {elt tg iter : Expr} {ifs : List Expr} {scope : Scope} {own : List (Str × Nat)} {t : Tg} {f : List P → Option (List P)} {is : IEs} {cd j : IE} (hc : X.calm = true) (hN : X.N.Nodup) (hi : DI X cl W tg iter f (evEs rn is)) (ok : BlkOk X.N X.env.scope scope own)
    (hv : ∀ i ∈ t.slots, i ∈ own.map (·.2)) (hg : ∀ (s : Shared) (H : Hp) (C : Addr) (l : List (Str × Addr)) (fp : List Addr), DGT (X.blk s H scope (compEnvC scope l C X.env) fp) tg t)
    (ht : ∀ (s : Shared) (H : Hp) (C : Addr) (l : List (Str × Addr)) (fp : List Addr), DTs (X.blk s H scope (compEnvC scope l C X.env) fp) cl W0 ifs (evE rn cd))
    (he : ∀ (s : Shared) (H : Hp) (C : Addr) (l : List (Str × Addr)) (fp : List Addr), DE (X.blk s H scope (compEnvC scope l C X.env) fp) cl W0 elt (evE rn j)) (hs : ∀ x, foldedSetIterable iter X.env x = pure x) :
    FE X cl W (.ListComp elt [⟨tg, iter, ifs, 0⟩] scope pos) (evE rn (.comp (own.map (·.2)) t f is cd j)) :=
  PE.imp (pe_lc (g := gTg X.K t) (tt := tG (kx X cl) cl W0 rB fun e S => testD (evE rn cd e S)) (te := tG (kx X cl) cl W0 (rD (kx X cl)) (evE rn j)) hc hN hi ok hg ht he hs) fun σ H Q h => tLc_of hv h
/-- a store of a new list: what the statement wants -/
theorem asg_tF {K : Kx} {i : Nat} {a : IE} {σ : L2.St} {H : Hp} {D : Ends} (h : tS K cl W (evS rn w (.asg (.one i) a)) D σ H) : tF K cl W (evE rn a) σ H fun x H1 => gName i x σ H1 D.nx := by
  obtain ⟨m, B, e, S, hS, hE, h⟩ := h
  simp only [evS, assignTg] at h
  refine tF_of hS hE ?_
  have hp : ∀ {m' : Mp} {p b : Addr}, Pr m' B b → Pr m' (fun a => B a ∨ a = p) b := fun z => z.elim .inl fun z => .inr (.inl z)
  cases q : evE rn a e S with
  | ok d S1 =>
    rw [q, R.go_ok] at h
    cases d with
    | p x =>
      cases x with
      | lst xs =>
        intro m' H' p vs x np rs ep rp
        refine h m' H' _ x (rs.less fun a z => .inl z) ((x.relE hE).set (d := .p (.lst xs)) ⟨p, vs, rfl, fun z => ?_, ep, rp.less fun _ => hp⟩ i)
        exact z.elim (rs.bd p (.inr rfl)).2 fun z => (hS.bd p z).1 np
      | dic ks xs =>
        intro m' H' p vs u x np rs ep d rp
        refine h m' H' _ x (rs.less fun a z => .inl z) ((x.relE hE).set (d := .p (.dic ks xs)) ⟨p, vs, u, rfl, fun z => ?_, .inl ep, d, rp.less fun _ => hp⟩ i)
        exact z.elim (rs.bd p (.inr rfl)).2 fun z => (hS.bd p z).1 np
      | _ => exact fun m' H' v x rs rp => h m' H' _ x rs ((x.relE hE).set rp i)
    | ref l => exact fun m' H' v x rs rp => h m' H' _ x rs ((x.relE hE).set rp i)
    | exc c fs => exact fun m' H' v x rs rp => h m' H' _ x rs ((x.relE hE).set rp i)
  | ex c fs S1 =>
    rw [q] at h
    exact fun m' H' cls dd x rs xr => h m' H' σ cls dd x rs (x.relE hE) xr
  | no =>
    rw [q] at h
    exact h.elim
theorem asg_tFn {K : Kx} {i : Nat} {a : IE} {σ : L2.St} {H : Hp} {D : Ends} (h : tS K cl W (evS rn w (.asg (.one i) (.new a))) D σ H) : tF K cl W (evE rn a) σ H fun x H1 => gName i x σ H1 D.nx := by
  obtain ⟨m, B, e, S, hS, hE, h⟩ := h
  simp only [evS, assignTg, evE] at h
  refine tF_of hS hE ?_
  cases q : evE rn a e S with
  | ok d S1 =>
    rw [q, R.bind_ok] at h
    have hB : ∀ {p}, H p = none → ∀ a, B a → a ≠ p := fun {p} np a z e => (hS.bd a z).1 (by rw [e]; exact np)
    have hsub : ∀ {m' : Mp} {p a : Addr}, Pr (m' ++ [some p]) B a → Pr m' (fun a => B a ∨ a = p) a := fun z => by
      rcases z with z | z
      · rcases List.mem_append.mp z with z | z
        · exact .inl z
        · exact .inr (.inr (by simpa using z))
      · exact .inr (.inl z)
    cases d with
    | p x =>
      cases x with
      | lst xs =>
        intro m' H' p vs x np rs ep rp
        have x2 := new_ext x np
        refine h (m' ++ [some p]) H' _ x2 (new_rel (hB np) rs ⟨vs, ep, rp.less fun _ => hsub⟩) ((x2.relE hE).set (d := .ref S1.length) ?_ i)
        dsimp only [RepD]
        rw [← rs.len]
        simp
      | dic ks xs =>
        intro m' H' p vs u x np rs ep d rp
        have l1 : ks.length = xs.length := by rw [rp.len]; exact d.1
        have x2 := new_ext x np
        refine h (m' ++ [some p]) H' _ x2 (new_rel (hB np) rs ⟨vs, u, ep, by rw [List.map_fst_zip (Nat.le_of_eq l1)]; exact d, by rw [List.map_snd_zip (Nat.le_of_eq l1.symm)]; exact rp.less fun _ => hsub⟩) ((x2.relE hE).set (d := .ref S1.length) ?_ i)
        dsimp only [RepD]
        rw [← rs.len]
        simp
      | _ => exact h.elim
    | ref l => exact h.elim
    | exc c fs => exact h.elim
  | ex c fs S1 =>
    rw [q] at h
    exact fun m' H' cls dd x rs xr => h m' H' σ cls dd x rs (x.relE hE) xr
  | no =>
    rw [q] at h
    exact h.elim
section
variable {i : Nat} {y : Str} {py : Pos} {elt tg iter : Expr} {ifs : List Expr} {scope : Scope} {own : List (Str × Nat)} {t : Tg} {f : List P → Option (List P)} {is : IEs} {cd j : IE} {spos : Pos}
theorem ds_setLc (hc : X.calm = true) (hN : X.N.Nodup) (hy : X.N[i]? = some y) (hyl : X.env.scope.names.lookup y = some .local) (hsw : swapsWith (.ListComp elt [⟨tg, iter, ifs, 0⟩] scope pos) (some (.Name y py)) spos.line X.env = pure true) (hi : DI X cl W tg iter f (evEs rn is)) (ok : BlkOk X.N X.env.scope scope own)
    (hv : ∀ i ∈ t.slots, i ∈ own.map (·.2)) (hg : ∀ (s : Shared) (H : Hp) (C : Addr) (l : List (Str × Addr)) (fp : List Addr), DGT (X.blk s H scope (compEnvC scope l C X.env) fp) tg t)
    (ht : ∀ (s : Shared) (H : Hp) (C : Addr) (l : List (Str × Addr)) (fp : List Addr), DTs (X.blk s H scope (compEnvC scope l C X.env) fp) cl W0 ifs (evE rn cd))
    (he : ∀ (s : Shared) (H : Hp) (C : Addr) (l : List (Str × Addr)) (fp : List Addr), DE (X.blk s H scope (compEnvC scope l C X.env) fp) cl W0 elt (evE rn j)) (hs : ∀ x, foldedSetIterable iter X.env x = pure x) :
    DS X cl W (.Assign [.Name y py] (.ListComp elt [⟨tg, iter, ifs, 0⟩] scope pos) spos) (evS rn w (.asg (.one i) (.comp (own.map (·.2)) t f is cd j))) :=
  PS.imp (ps_setLc (g := gTg X.K t) (tt := tG (kx X cl) cl W0 rB fun e S => testD (evE rn cd e S)) (te := tG (kx X cl) cl W0 (rD (kx X cl)) (evE rn j)) hc hN hy hyl hsw hi ok hg ht he hs) fun D σ H h => tLc_of hv (asg_tF h)
theorem ds_setLcN (hc : X.calm = true) (hN : X.N.Nodup) (hy : X.N[i]? = some y) (hyl : X.env.scope.names.lookup y = some .local) (hsw : swapsWith (.ListComp elt [⟨tg, iter, ifs, 0⟩] scope pos) (some (.Name y py)) spos.line X.env = pure true) (hi : DI X cl W tg iter f (evEs rn is)) (ok : BlkOk X.N X.env.scope scope own)
    (hv : ∀ i ∈ t.slots, i ∈ own.map (·.2)) (hg : ∀ (s : Shared) (H : Hp) (C : Addr) (l : List (Str × Addr)) (fp : List Addr), DGT (X.blk s H scope (compEnvC scope l C X.env) fp) tg t)
    (ht : ∀ (s : Shared) (H : Hp) (C : Addr) (l : List (Str × Addr)) (fp : List Addr), DTs (X.blk s H scope (compEnvC scope l C X.env) fp) cl W0 ifs (evE rn cd))
    (he : ∀ (s : Shared) (H : Hp) (C : Addr) (l : List (Str × Addr)) (fp : List Addr), DE (X.blk s H scope (compEnvC scope l C X.env) fp) cl W0 elt (evE rn j)) (hs : ∀ x, foldedSetIterable iter X.env x = pure x) :
    DS X cl W (.Assign [.Name y py] (.ListComp elt [⟨tg, iter, ifs, 0⟩] scope pos) spos) (evS rn w (.asg (.one i) (.new (.comp (own.map (·.2)) t f is cd j)))) :=
  PS.imp (ps_setLc (g := gTg X.K t) (tt := tG (kx X cl) cl W0 rB fun e S => testD (evE rn cd e S)) (te := tG (kx X cl) cl W0 (rD (kx X cl)) (evE rn j)) hc hN hy hyl hsw hi ok hg ht he hs) fun D σ H h => tLc_of hv (asg_tFn h)
end
end
/-! ### a def -/
theorem relE_start {K : Kx} {m : Mp} {B : Addr → Prop} {H : Hp} {N : List Str} {nv : Nat} : ∀ {ds : List D} {vs : List V}, RepDs K H m B ds vs → N.length = ds.length + nv → RelE K m B (ds.map some ++ List.replicate nv none) (L2.start N vs) H := fun {ds vs} r hN => by
  have hl := r.len
  refine ⟨by unfold L2.start; simp; omega, fun i d q => ?_⟩
  unfold L2.start
  by_cases hi : i < ds.length
  · rw [List.getElem?_append_left (by simpa using hi), List.getElem?_map] at q
    rw [List.getElem?_append_left (by simpa [← hl] using hi), List.getElem?_map]
    have : ∀ {ds : List D} {vs : List V} {i : Nat} {d : D}, RepDs K H m B ds vs → ds[i]? = some d → ∃ v, vs[i]? = some v ∧ RepD K H m B d v := by
      intro ds
      induction ds with
      | nil => intro vs i d r e; simp at e
      | cons a ds ih =>
        intro vs i d r e
        obtain ⟨v, s, rfl, r1, r2⟩ := r
        cases i with
        | zero => simp at e; subst e; exact ⟨v, rfl, r1⟩
        | succ i => simp only [List.getElem?_cons_succ] at e ⊢; exact ih r2 e
    cases z : ds[i]? with
    | none => rw [z] at q; cases q
    | some d' =>
      rw [z] at q
      cases q
      obtain ⟨v, e, rv⟩ := this r z
      exact ⟨v, by rw [e]; rfl, rv⟩
  · rw [List.getElem?_append_right (by simpa using hi), List.getElem?_replicate] at q
    split at q <;> cases q
theorem XR.less {K : PySem.W.Frag} {cl : Cls_} {H : Hp} {m m' : Mp} {B : Addr → Prop} {c : Nat} {fs : List P} {cls : Value} {dd : Option Addr} (h : XR K cl H m B c fs cls dd) (hm : ∀ a, some a ∈ m' → some a ∈ m) : XR K cl H m' B c fs cls dd := by
  obtain ⟨C, names, e1, e2, q⟩ := h
  exact ⟨C, names, e1, e2, q.less fun a z => z.elim (fun z => .inl (hm a z)) .inr⟩
theorem fin_end {K : Kx} {cl : Cls_} {E : XK} {m : Mp} {B : Addr → Prop} {H : Hp} {S : Store} {r : RS} {Q : VK} (hS : RelS K m B S H) (h : EndG K cl (fun cls dd _ H' => E cls dd H') (rD K) m B [] H (fin S r) Q) :
    EndS K cl (fun cls dd _ H' => E cls dd H') m B H r { nx := fun _ H' => Q .non H', rt := Q } := by
  cases r with
  | nx e' S' =>
    intro m' H' σ' x rs re
    simp only [fin] at h
    by_cases ok : okT S S' = true
    · rw [if_pos ok] at h
      exact h _ H' .non (x.back (by rw [hS.len]; exact Nat.le_refl _)) (hS.back x rs ok) rfl
    · rw [if_neg ok] at h; exact h.elim
  | bk e' S' => exact h.elim
  | ct e' S' => exact h.elim
  | no => exact h.elim
  | ex c fs e' S' =>
    intro m' H' σ' cls dd x rs re xr
    simp only [fin] at h
    by_cases ok : okT S S' = true
    · rw [if_pos ok] at h
      exact h _ H' cls dd (x.back (by rw [hS.len]; exact Nat.le_refl _)) (hS.back x rs ok) (xr.less fun a z => mem_take z)
    · rw [if_neg ok] at h; exact h.elim
  | ret d S' =>
    intro m' H' v x rs rd
    cases d with
    | p y =>
      simp only [fin] at h
      by_cases ok : okT S S' = true
      · rw [if_pos ok] at h
        exact h _ H' v (x.back (by rw [hS.len]; exact Nat.le_refl _)) (hS.back x rs ok) (Rep.less Pr.take rd)
      · rw [if_neg ok] at h; exact h.elim
    | exc c fs => exact h.elim
    | ref l =>
      simp only [fin] at h
      by_cases ok : okT S S' = true
      · rw [if_pos ok] at h
        have rb := hS.back x rs ok
        have xb := x.back (n := S.length) (by rw [hS.len]; exact Nat.le_refl _)
        by_cases hl : l < S.length
        · rw [if_pos hl] at h
          refine h _ H' v xb rb ?_
          dsimp only [rD, RepD] at rd ⊢
          rw [List.getElem?_take_of_lt hl]
          exact rd
        · rw [if_neg hl] at h
          dsimp only [RepD] at rd
          cases z : m'[l]? with
          | none => rw [z] at rd; exact rd.elim
          | some y =>
            rw [z] at rd
            cases y with
            | none => rw [rs.dead l z] at h; exact h.elim
            | some a =>
              subst rd
              obtain ⟨o, q1, q2⟩ := rs.ob l a z
              rw [q1] at h
              have hn : (m'.take S.length).length = S.length := by
                rw [rb.len, List.length_take]
                have := okT_len ok
                omega
              have na : some a ∉ m'.take S.length := nomem_take rs z (Nat.le_of_not_lt hl)
              have am : some a ∈ m' := List.mem_of_getElem? z
              have nB : ∀ b, B b → b ≠ a := fun b hb e => (rs.bd b hb).2 (e ▸ am)
              have sub : ∀ b, Pr (m'.take S.length ++ [some a]) B b → Pr m' B b := fun b w => by
                rcases w with w | w
                · rcases List.mem_append.mp w with w | w
                  · exact .inl (mem_take w)
                  · have : b = a := by simpa using w
                    exact .inl (this ▸ am)
                · exact .inr w
              have sub2 : ∀ b, Pr (m'.take S.length) (fun b => B b ∨ b = a) b → Pr m' B b := fun b w => by
                rcases w with w | w | w
                · exact .inl (mem_take w)
                · exact .inr w
                · exact .inl (w ▸ am)
              have rban : RelS K (m'.take S.length) (fun b => B b ∨ b = a) (S'.take S.length) H' := by
                refine ⟨rb.len, rb.inj, fun i b e => ?_, rb.dead, fun b w => ?_⟩
                · obtain ⟨hi, e⟩ := take_at e
                  obtain ⟨o', g1, g2⟩ := rs.ob i b e
                  refine ⟨o', by rw [List.getElem?_take_of_lt hi, g1], ?_⟩
                  cases o' with
                  | lst xs =>
                    obtain ⟨vs, e, h⟩ := g2
                    exact ⟨vs, e, h.less sub2⟩
                  | dic kvs =>
                    obtain ⟨vs, u, e, d, h⟩ := g2
                    exact ⟨vs, u, e, d, h.less sub2⟩
                  | dir kvs =>
                    have e' : (m'.take S.length)[i]? = some (some b) := by rw [List.getElem?_take_of_lt hi, e]
                    obtain ⟨o2, k1, k2⟩ := rb.ob i b e'
                    rw [List.getElem?_take_of_lt hi, g1] at k1
                    cases k1
                    obtain ⟨vs, u, e2, d, h⟩ := k2
                    refine ⟨vs, u, e2, d, ?_⟩
                    have refsB : ∀ {kvs : List (P × Nat)} {vs : List V}, RepDs K H' (m'.take S.length) B (kvs.map fun p => .ref p.2) vs → RepDs K H' (m'.take S.length) (fun b => B b ∨ b = a) (kvs.map fun p => .ref p.2) vs := by
                      intro kvs
                      induction kvs with
                      | nil => exact fun r => r
                      | cons p r ih =>
                        intro vs r
                        obtain ⟨v, s, rfl, a1, b1⟩ := r
                        exact ⟨v, s, rfl, a1, ih b1⟩
                    exact refsB h
                  | dead => exact g2.elim
                · rcases w with w | w
                  · exact rb.bd b w
                  · rw [w]
                    exact ⟨rs.live am, na⟩
              have xn : Ext m H (m'.take S.length ++ [some a]) H' := ⟨by rw [List.length_append]; exact Nat.le_trans xb.len (Nat.le_add_right _ _), fun i y e => by
                  rcases xb.keep i y e with q | q
                  · exact .inl (by rw [List.getElem?_append_left (List.getElem?_eq_some_iff.mp q).1, q])
                  · exact .inr (by rw [List.getElem?_append_left (List.getElem?_eq_some_iff.mp q).1, q]), fun b o n e => ⟨(xb.obj b o n e).1, fun w => by
                  rcases List.mem_append.mp w with w | w
                  · exact (xb.obj b o n e).2 w
                  · have e2 : b = a := by simpa using w
                    exact (x.obj b o n e).2 (e2 ▸ am)⟩, xb.tup, xb.dom⟩
              have ref : RepD K H' (m'.take S.length ++ [some a]) B (.ref S.length) (.ref a) := by
                dsimp only [RepD]
                rw [List.getElem?_append_right (by omega), hn]
                simp
              cases o with
              | lst xs =>
                obtain ⟨vs, e, g⟩ := q2
                exact h _ H' (.ref a) xn (new_rel nB rban ⟨vs, e, g.less sub⟩) ref
              | dic kvs =>
                obtain ⟨vs, u, e, d, g⟩ := q2
                exact h _ H' (.ref a) xn (new_rel nB rban ⟨vs, u, e, d, g.less sub⟩) ref
              | dir kvs => exact h.elim
              | dead => exact h.elim
      · rw [if_neg ok] at h; exact h.elim
section
variable {Pg : Program} {wd : World} {K : PySem.W.Frag} {mg : Str → Option Value} {base : Heap}
theorem fn_okD {x qual : Str} {st : Stmt} {f : Addr} {fd : FuncData} {N ps : List Str} {k n nv : Nat} {cl : Cls_} {rn : Rn} {body : ISs} (F : Fun K x qual st f fd) (Sc : FnScope N ps (defScope st)) (hps : ps.length = n) (hN : N.length = n + nv)
    (h : ∀ (cdv : Value) (A : Around) (outer : List PySem.Env) (s : Shared) (H : Hp) (E : XK), Room k (A.deeper (envOfC qual (defScope st) s.heap.objs.size f cdv)) →
      DSs (cxOf (L2N.CX Pg wd) Pg wd K mg base N qual (defScope st) f cdv A outer s H E) cl (fun cls dd _ H' => E cls dd H') (defBody st) (evSs rn turnsMost body)) :
    FnOk Pg wd K mg base (L2N.CX Pg wd) (k + 1) f fd ps (spD K cl n fun ds S => if ds.length = n then fin S (evSs rn turnsMost body (ds.map some ++ List.replicate nv none) S) else .no) := by
  obtain ⟨oc, od, kV, doc, pm, an, cdv, ct, osl, rfl, lk, hcd⟩ := F.ex
  refine fn_of lk hcd Sc (fun vs H Q E q => ?_) fun A outer s H vs Q E hr q => ?_
  · obtain ⟨m, B, S, ds, hS, rd, hl, _⟩ := q
    rw [← rd.len, hl, hps]
  · refine ⟨_, h cdv A outer s H E hr, ?_⟩
    obtain ⟨m, B, S, ds, hS, rd, hl, q⟩ := q
    dsimp only at q
    rw [if_pos hl] at q
    exact ⟨m, B, _, S, hS, relE_start rd (by rw [hN, hl]), fin_end hS q⟩
end
end DL

set_option maxRecDepth 100000
set_option maxHeartbeats 1000000
/-! DOpS: the operations' rules say what the data functions say -/
namespace DL
open PySem PySem.Spec PyProof.Rows L2
theorem line_eq : line = sizeLine := by rw [sizeLine_eq]; rfl
section
variable {K : PySem.W.Frag} {H : Hp} {pr : Addr → Prop}
theorem RepT.lst {xs : List P} {v : V} (h : RepT K H pr (.lst xs) v) : ∃ a vs, v = .ref a ∧ H a = some (.lst vs) ∧ Reps K H pr xs vs := h
theorem RepT.tup {xs : List P} {v : V} (h : RepT K H pr (.tup xs) v) : ∃ a vs, v = .ref a ∧ TupO H a vs (isPairs xs) ∧ Reps K H pr xs vs := h
theorem RepT.scr {xs : List P} {v : V} (h : RepT K H pr (.scr xs) v) : ∃ a vs, v = .ref a ∧ SqL K H a vs ∧ Reps K H pr xs vs := by
  obtain ⟨a, vs, e, q, r⟩ := (show Rep K H pr (.scr xs) v from h)
  exact ⟨a, vs, e, q.elim (fun q => .inl q.2) .inr, r⟩
theorem RepT.int {i : Int} {v : V} (h : RepT K H pr (.int i) v) : v = .int i := h
theorem RepT.bl {b : Bool} {v : V} (h : RepT K H pr (.bl b) v) : v = .bl b := h
theorem RepT.str {x : List Nat} {v : V} (h : RepT K H pr (.str x) v) : v = .str (strV x) ∧ okS x := h
theorem len_strV (x : List Nat) : (strV x).length = x.length := by simp [strV, Str.length]
theorem strV_app (x y : List Nat) : strV x ++ strV y = strV (x ++ y) := by
  show Str.append _ _ = _
  unfold Str.append strV
  simp
theorem okS_app {x y : List Nat} (h1 : okS x) (h2 : okS y) (h : x.length + y.length ≤ sizeLine) : okS (x ++ y) := ⟨by rw [List.length_append]; exact h, fun c hc => (List.mem_append.mp hc).elim (h1.2 c) (h2.2 c)⟩
theorem Reps.same {xs : List P} {vs : List V} {H' : Hp} (h : Reps K H pr xs vs) (s : Same H H') : Reps K H' pr xs vs := h.mono (fun a u n r => ⟨s _ _ r, n⟩) fun a u t r => s _ _ r
theorem Rep.same {x : P} {v : V} {H' : Hp} (h : Rep K H pr x v) (s : Same H H') : Rep K H' pr x v := h.mono (fun a u n r => ⟨s _ _ r, n⟩) fun a u t r => s _ _ r
theorem SqT.new {xs : List V} {p : Addr} : (upd H p (.tup xs)) p = some (.tup xs) := upd_same
end
/-! ### ints -/
section
variable {K : PySem.W.Frag}
theorem ints2 {f : List P → Option P} {xs : List P} {z : P} (h : f xs = some z) (h0 : f [] = none) (h1 : ∀ a, f [a] = none) (h3 : ∀ a b c r, f (a :: b :: c :: r) = none) : ∃ x y, xs = [x, y] := by
  match xs, h with
  | [], h => rw [h0] at h; cases h
  | [a], h => rw [h1] at h; cases h
  | [a, b], h => exact ⟨a, b, rfl⟩
  | a :: b :: c :: r, h => rw [h3] at h; cases h
theorem one1 {f : List P → Option P} {xs : List P} {z : P} (h : f xs = some z) (h0 : f [] = none) (h2 : ∀ a b r, f (a :: b :: r) = none) : ∃ x, xs = [x] := by
  match xs, h with
  | [], h => rw [h0] at h; cases h
  | [a], h => exact ⟨a, rfl⟩
  | a :: b :: r, h => rw [h2] at h; cases h
theorem ov_sub : OpV K (rOf2 (rI0 fun i j => .int (i - j))) subP := .two (fun H pr x y v w z Q hp r1 r2 hf hq => by
  unfold subP at hf
  split at hf
  · rename_i e
    cases e
    cases hf
    exact ⟨_, _, r1.int, r2.int, hq H _ (Same.refl _) rfl⟩
  · cases hf) fun xs z h => ints2 h rfl (fun _ => by simp [subP]) fun _ _ _ _ => by simp [subP]
theorem ov_cmp {g : Int → Int → Bool} {f : List P → Option P} (h : ∀ xs z, f xs = some z → ∃ a b, xs = [.int a, .int b] ∧ z = .bl (g a b)) : OpV K (rOf2 (rI0 fun i j => .bl (g i j))) f := .two (fun H pr x y v w z Q hp r1 r2 hf hq => by
  obtain ⟨a, b, e, rfl⟩ := h _ _ hf
  cases e
  exact ⟨_, _, r1.int, r2.int, hq H _ (Same.refl _) rfl⟩) fun xs z hf => by
  obtain ⟨a, b, rfl, _⟩ := h _ _ hf
  exact ⟨_, _, rfl⟩
theorem ov_lt : OpV K (rOf2 (rI0 fun i j => .bl (decide (i < j)))) ltP := ov_cmp fun xs z h => by
  unfold ltP at h
  split at h
  · cases h; exact ⟨_, _, rfl, rfl⟩
  · cases h
theorem ov_le : OpV K (rOf2 (rI0 fun i j => .bl (decide (i ≤ j)))) leP := ov_cmp fun xs z h => by
  unfold leP at h
  split at h
  · cases h; exact ⟨_, _, rfl, rfl⟩
  · cases h
theorem ov_gt : OpV K (rOf2 (rI0 fun i j => .bl (decide (j < i)))) gtP := ov_cmp fun xs z h => by
  unfold gtP at h
  split at h
  · cases h; exact ⟨_, _, rfl, rfl⟩
  · cases h
theorem ov_ge : OpV K (rOf2 (rI0 fun i j => .bl (decide (j ≤ i)))) geP := ov_cmp fun xs z h => by
  unfold geP at h
  split at h
  · cases h; exact ⟨_, _, rfl, rfl⟩
  · cases h
theorem ov_fdiv : OpV K (rOf2 (rI CDivW fun i j => .int (i / j))) fdivP := .two (fun H pr x y v w z Q hp r1 r2 hf hq => by
  unfold fdivP at hf
  split at hf
  · rename_i e
    cases e
    split at hf
    · rename_i hc
      cases hf
      exact ⟨_, _, r1.int, r2.int, hc, hq H _ (Same.refl _) rfl⟩
    · cases hf
  · cases hf) fun xs z h => ints2 h rfl (fun _ => by simp [fdivP]) fun _ _ _ _ => by simp [fdivP]
theorem ov_mod : OpV K (rOf2 (rI (fun _ j => 0 < j) fun i j => .int (i % j))) modP := .two (fun H pr x y v w z Q hp r1 r2 hf hq => by
  unfold modP at hf
  split at hf
  · rename_i e
    cases e
    split at hf
    · rename_i hc
      cases hf
      exact ⟨_, _, r1.int, r2.int, hc, hq H _ (Same.refl _) rfl⟩
    · cases hf
  · cases hf) fun xs z h => ints2 h rfl (fun _ => by simp [modP]) fun _ _ _ _ => by simp [modP]
theorem ov_pow : OpV K (rOf2 (rI CPow fun i j => .int (i ^ j.toNat))) powP := .two (fun H pr x y v w z Q hp r1 r2 hf hq => by
  unfold powP at hf
  split at hf
  · rename_i e
    cases e
    split at hf
    · rename_i hc
      cases hf
      exact ⟨_, _, r1.int, r2.int, ⟨hc.1, hc.2.1, hc.2.2⟩, hq H _ (Same.refl _) rfl⟩
    · cases hf
  · cases hf) fun xs z h => ints2 h rfl (fun _ => by simp [powP]) fun _ _ _ _ => by simp [powP]
theorem ov_neg : OpV K (rOf1 (rU fun i => .int (-i))) negP := .one (fun H pr x v z Q hp r hf hq => by
  unfold negP at hf
  split at hf
  · rename_i e
    cases e
    cases hf
    exact ⟨_, r.int, hq H _ (Same.refl _) rfl⟩
  · cases hf) fun xs z h => one1 h rfl fun _ _ _ => by simp [negP]
/-! ### + -/
def rAddAll (K : PySem.W.Frag) : R2 := fun x y H Q => (∃ i j, x = .int i ∧ y = .int j ∧ Q (.int (i + j)) H) ∨ (∃ i j, x = .str i ∧ y = .str j ∧ i.length + j.length ≤ sizeLine ∧ Q (.str (i ++ j)) H) ∨ rCatA K x y H Q ∨ rCat x y H Q
theorem op_addAll {X : Cx} : OpR X (binaryOp .Add) (rAddAll X.K) := op_add.or (op_add_str.or (op_catA.or op_cat))
theorem ov_add : OpV K (rOf2 (rAddAll K)) addP := .two (fun H pr x y v w z Q hp r1 r2 hf hq => by
  unfold addP at hf
  split at hf
  · rename_i e
    cases e
    cases hf
    exact .inl ⟨_, _, r1.int, r2.int, hq H _ (Same.refl _) rfl⟩
  · rename_i e
    cases e
    split at hf
    · rename_i hc
      cases hf
      rw [line_eq] at hc
      obtain ⟨e1, o1⟩ := r1.str
      obtain ⟨e2, o2⟩ := r2.str
      refine .inr (.inl ⟨_, _, e1, e2, by rw [len_strV, len_strV]; exact hc, ?_⟩)
      rw [strV_app]
      exact hq H _ (Same.refl _) ⟨rfl, okS_app o1 o2 hc⟩
    · cases hf
  · rename_i a b e
    cases e
    split at hf
    · rename_i hc
      cases hf
      rw [line_eq] at hc
      obtain ⟨l1, vs1, rfl, s1, p1⟩ := r1.tup
      obtain ⟨l2, vs2, rfl, s2, p2⟩ := r2.tup
      refine .inr (.inr (.inl ⟨l1, l2, vs1, vs2, rfl, rfl, s1.sq, s2.sq, by rw [← p1.len, ← p2.len]; exact hc.1, fun e => ?_, fun n e => ?_, fun n1 n2 p np => ?_⟩))
      · subst e
        have : a = [] := List.eq_nil_of_length_eq_zero p1.len
        subst this
        exact hq H _ (Same.refl _) ⟨l2, vs2, rfl, s2, p2⟩
      · subst e
        have : b = [] := List.eq_nil_of_length_eq_zero p2.len
        subst this
        rw [List.append_nil] at hq
        exact hq H _ (Same.refl _) ⟨l1, vs1, rfl, s1, p1⟩
      · have hnp : isPairs (a ++ b) = false := by
          rcases hc.2 with h | h | h
          · subst h
            exact absurd (Reps.nil_iff.mp p1) n1
          · subst h
            exact absurd (Reps.nil_iff.mp p2) n2
          · exact h
        refine hq _ _ (Same.new np) ⟨p, _, rfl, by rw [hnp]; exact SqT.new, ?_⟩
        exact (p1.append p2).same (Same.new np)
    · cases hf
  · rename_i e
    cases e
    split at hf
    · rename_i hc
      cases hf
      rw [line_eq] at hc
      obtain ⟨l1, vs1, rfl, s1, p1⟩ := r1.lst
      obtain ⟨l2, vs2, rfl, s2, p2⟩ := r2.lst
      refine .inr (.inr (.inr ⟨l1, l2, vs1, vs2, rfl, rfl, s1, s2, by rw [← p1.len, ← p2.len]; exact hc, fun p np => ?_⟩))
      exact hq _ _ (Same.new np) ⟨p, _, rfl, fun z => hp p z np, upd_same, ((p1.append p2).new np).less fun a z => .inl z⟩
    · cases hf
  · cases hf) fun xs z h => ints2 h rfl (fun _ => by simp [addP]) fun _ _ _ _ => by simp [addP]
/-! ### * -/
def rStrMul : R2 := fun x y H Q => ∃ z k, x = .str z ∧ y = .int k ∧ 2 ≤ k ∧ k ≤ 1000 ∧ 1 ≤ z.length ∧ z.length ≤ 1000 ∧ Q (.str ⟨(List.replicate k.toNat z.cps.toList).flatten.toArray⟩) H
theorem op_strMul {X : Cx} : OpR X (binaryOp .Mult) rStrMul := by
  intro pins s σ H x y v u Q I rx ry h
  obtain ⟨z, k, rfl, rfl, h1, h2, h3, h4, q⟩ := h
  obtain ⟨t, rfl⟩ := rx
  obtain ⟨t', rfl⟩ := ry
  have hb : (z.length : Int) * k ≤ 1000000 := by
    have a1 : (z.length : Int) * k ≤ 1000 * k := Int.mul_le_mul_of_nonneg_right (by omega) (by omega)
    omega
  have hfl : ∀ m : Nat, (List.replicate m z.cps).foldl (· ++ ·) #[] = (List.replicate m z.cps.toList).flatten.toArray := fun m => by
    have : ∀ (l : List (Array Nat)) (a : Array Nat), l.foldl (· ++ ·) a = (a.toList ++ (l.map Array.toList).flatten).toArray := by
      intro l
      induction l with
      | nil => intro a; simp
      | cons b r ih => intro a; rw [List.foldl_cons, ih]; simp
    rw [this]
    simp
  have hn : k.toNat ≤ 1000 := by omega
  have hlen : z.length * k.toNat ≤ 1000000 := Nat.le_trans (Nat.mul_le_mul h4 hn) (by decide)
  refine PySem.P.mul_str ?_ (fun _ _ => ?_) (fun _ _ => ?_) ?_
  · rw [decide_eq_false (by omega), decide_eq_false (by omega)]; rfl
  · have : (2 ^ 63 - 1) / k ≥ (2 ^ 63 - 1) / 1000 := by
      apply Int.le_ediv_of_mul_le (by omega)
      have : (2 ^ 63 - 1 : Int) / 1000 * k ≤ (2 ^ 63 - 1) / 1000 * 1000 := Int.mul_le_mul_of_nonneg_left h2 (by decide)
      have : (2 ^ 63 - 1 : Int) / 1000 * 1000 ≤ 2 ^ 63 - 1 := by decide
      omega
    have : ((2 : Int) ^ 63 - 1) / 1000 ≥ 1000 := by decide
    omega
  · unfold Builtin.Str.tooLong
    rw [decide_eq_false]
    have := sizeLine_eq
    first
      | omega
      | (simp only [Nat.not_lt]; omega)
  · rw [if_neg (by omega), if_neg (by simp; omega)]
    refine ⟨?_, ?_⟩
    · rw [hfl]
      show ((List.replicate k.toNat z.cps.toList).flatten.toArray).size ≤ _
      rw [List.size_toArray, PyProof.Rows.lm_len_rep_flat]
      have := sizeLine_eq
      have : k.toNat * z.cps.toList.length = z.length * k.toNat := by rw [Nat.mul_comm]; rfl
      omega
    · rw [hfl]
      exact ⟨.str _, H, I.tok _, ⟨_, rfl⟩, q⟩
def rMulAll (K : PySem.W.Frag) : R2 := fun x y H Q => rI CMulW (fun i j => .int (i * j)) x y H Q ∨ rRep x y H Q ∨ rRepT K x y H Q ∨ rStrMul x y H Q
theorem op_mulAll {X : Cx} : OpR X (binaryOp .Mult) (rMulAll X.K) := op_mulW.or (op_rep.or (op_repT.or op_strMul))
theorem Reps.rep {K : PySem.W.Frag} {H : Hp} {pr : Addr → Prop} {xs : List P} {vs : List V} (h : Reps K H pr xs vs) : ∀ n : Nat, Reps K H pr (List.replicate n xs).flatten (List.replicate n vs).flatten
  | 0 => Reps.nil_iff.mpr rfl
  | n + 1 => by
    rw [List.replicate_succ, List.replicate_succ, List.flatten_cons, List.flatten_cons]
    exact h.append (Reps.rep h n)
theorem ov_mul : OpV K (rOf2 (rMulAll K)) mulP := .two (fun H pr x y v w z Q hp r1 r2 hf hq => by
  unfold mulP at hf
  split at hf
  · rename_i e
    cases e
    split at hf
    · rename_i hc
      cases hf
      exact .inl ⟨_, _, r1.int, r2.int, hc, hq H _ (Same.refl _) rfl⟩
    · cases hf
  · rename_i e
    cases e
    split at hf
    · rename_i hc
      cases hf
      rw [line_eq] at hc
      obtain ⟨l1, vs1, rfl, s1, p1⟩ := r1.lst
      refine .inr (.inl ⟨l1, _, vs1, rfl, r2.int, s1, hc.1, hc.2.1, by rw [← p1.len]; exact hc.2.2, fun p np => ?_⟩)
      exact hq _ _ (Same.new np) ⟨p, _, rfl, fun z => hp p z np, upd_same, ((p1.rep _).new np).less fun a z => .inl z⟩
    · cases hf
  · rename_i e
    cases e
    split at hf
    · rename_i hc
      cases hf
      obtain ⟨l1, vs1, rfl, s1, p1⟩ := r1.tup
      have hl := p1.len
      refine .inr (.inr (.inl ⟨l1, _, vs1, rfl, r2.int, s1.sq, fun z => hc.1 ?_, hc.2.1, hc.2.2.1, by have := hc.2.2.2.1; omega, fun p np => ?_⟩))
      · subst z
        exact List.eq_nil_of_length_eq_zero hl
      · exact hq _ _ (Same.new np) ⟨p, _, rfl, by rw [hc.2.2.2.2]; exact SqT.new, (p1.rep _).same (Same.new np)⟩
    · cases hf
  · rename_i a k e
    cases e
    split at hf
    · rename_i hc
      cases hf
      obtain ⟨e1, o1⟩ := r1.str
      refine .inr (.inr (.inr ⟨_, _, e1, r2.int, hc.1, hc.2.1, by rw [len_strV]; exact hc.2.2.1, by rw [len_strV]; exact hc.2.2.2, ?_⟩))
      refine hq H _ (Same.refl _) ⟨by simp [strV], ?_, fun c hm => ?_⟩
      · rw [PyProof.Rows.lm_len_rep_flat, sizeLine_eq]
        have : k.toNat * a.length ≤ 1000 * 1000 := Nat.mul_le_mul (by omega) hc.2.2.2
        omega
      · obtain ⟨l, hl, hcl⟩ := List.mem_flatten.mp hm
        rw [List.eq_of_mem_replicate hl] at hcl
        exact o1.2 c hcl
    · cases hf
  · cases hf) fun xs z h => ints2 h rfl (fun _ => by simp [mulP]) fun _ _ _ _ => by simp [mulP]
end
end DL

set_option maxRecDepth 100000
set_option maxHeartbeats 1000000
/-! DOpT: comparisons of data, items, slices, calls of built-ins -/
namespace DL
open PySem PySem.Spec PyProof.Rows L2
/-! ### == -/
mutual
def toPy : P → PyData
  | .non => .none
  | .bl b => .bool b
  | .int i => .int i
  | .str x => .str (strV x)
  | .tup xs => .tuple (toPys xs)
  | .lst xs => .list (toPys xs)
  | .dic _ _ => .dict []
  | .scr _ => .dict []
def toPys : List P → List PyData
  | [] => []
  | x :: r => toPy x :: toPys r
end
theorem strV_inj {x y : List Nat} : (strV x == strV y) = decide (x = y) := by
  rw [Bool.eq_iff_iff]
  simp only [beq_iff_eq, decide_eq_true_eq]
  constructor
  · intro h
    have := congrArg (fun s : Str => s.cps.toList) h
    simpa [strV] using this
  · rintro rfl; rfl
mutual
theorem eqv_py : ∀ (n : Nat) (x y : P), x.shp n = true → y.shp n = true → PyData.eqv (toPy x) (toPy y) = x.eqv y
  | n, .non, y, h1, h2 => by cases y <;> simp [toPy, P.eqv, PyData.eqv, P.shp] at h2 ⊢
  | n, .bl b, y, h1, h2 => by cases y <;> simp [toPy, P.eqv, PyData.eqv, P.shp] at h2 ⊢ <;> rfl
  | n, .int i, y, h1, h2 => by cases y <;> simp [toPy, P.eqv, PyData.eqv, P.shp] at h2 ⊢ <;> rfl
  | n, .str x, y, h1, h2 => by
    cases y <;> simp only [toPy, P.eqv, PyData.eqv, strV_inj]
  | n + 1, .tup xs, y, h1, h2 => by
    cases y with
    | tup ys => simp only [toPy, P.eqv, PyData.eqv]; exact eqvs_py n xs ys (by simpa [P.shp] using h1) (by simpa [P.shp] using h2)
    | _ => simp [toPy, P.eqv, PyData.eqv]
  | n + 1, .lst xs, y, h1, h2 => by
    cases y with
    | lst ys => simp only [toPy, P.eqv, PyData.eqv]; exact eqvs_py n xs ys (by simpa [P.shp] using h1) (by simpa [P.shp] using h2)
    | _ => simp [toPy, P.eqv, PyData.eqv]
  | 0, .tup xs, y, h1, h2 => by simp [P.shp] at h1
  | 0, .lst xs, y, h1, h2 => by simp [P.shp] at h1
  | n, .dic _ _, y, h1, h2 => by cases n <;> simp [P.shp] at h1
  | n, .scr _, y, h1, h2 => by cases n <;> simp [P.shp] at h1
theorem eqvs_py : ∀ (n : Nat) (xs ys : List P), P.shps n xs = true → P.shps n ys = true → PyData.eqvAll (toPys xs) (toPys ys) = P.eqvs xs ys
  | n, [], ys, h1, h2 => by cases ys <;> simp [toPys, P.eqvs, PyData.eqvAll]
  | n, x :: xs, ys, h1, h2 => by
    cases ys with
    | nil => simp [toPys, P.eqvs, PyData.eqvAll]
    | cons y ys =>
      simp only [P.shps, Bool.and_eq_true] at h1 h2
      simp only [toPys, P.eqvs, PyData.eqvAll, eqv_py n x y h1.1 h2.1, eqvs_py n xs ys h1.2 h2.2]
end
mutual
theorem depth_py : ∀ (n : Nat) (x : P), x.shp n = true → (toPy x).depth ≤ n
  | n, .non, h => by simp [toPy, PyData.depth]
  | n, .bl _, h => by simp [toPy, PyData.depth]
  | n, .int _, h => by simp [toPy, PyData.depth]
  | n, .str _, h => by simp [toPy, PyData.depth]
  | n + 1, .tup xs, h => by
    simp only [toPy, PyData.depth]
    have := depths_py n xs (by simpa [P.shp] using h)
    omega
  | n + 1, .lst xs, h => by
    simp only [toPy, PyData.depth]
    have := depths_py n xs (by simpa [P.shp] using h)
    omega
  | 0, .tup xs, h => by simp [P.shp] at h
  | 0, .lst xs, h => by simp [P.shp] at h
  | n, .dic _ _, h => by cases n <;> simp [P.shp] at h
  | n, .scr _, h => by cases n <;> simp [P.shp] at h
theorem depths_py : ∀ (n : Nat) (xs : List P), P.shps n xs = true → PyData.depthAll (toPys xs) ≤ n
  | n, [], h => by simp [toPys, PyData.depthAll]
  | n, x :: xs, h => by
    simp only [P.shps, Bool.and_eq_true] at h
    have h1 := depth_py n x h.1
    have h2 := depths_py n xs h.2
    simp only [toPys, PyData.depthAll]
    omega
end
section
variable {K : PySem.W.Frag} {H : Hp} {pr : Addr → Prop}
mutual
theorem dp_of : ∀ (n : Nat) (x : P) (v : V), x.shp n = true → Rep K H pr x v → Dp K H v (toPy x) ∧ (toPy x).canLay0 = true
  | n, .non, v, h, r => by cases r; exact ⟨.non, rfl⟩
  | n, .bl _, v, h, r => by cases r; exact ⟨.bl _, rfl⟩
  | n, .int _, v, h, r => by cases r; exact ⟨.int _, rfl⟩
  | n, .str x, v, h, r => by
    obtain ⟨rfl, o⟩ := r
    refine ⟨.str _, ?_⟩
    show PyData.strOk (strV x) = true
    unfold PyData.strOk strV
    simp only [List.all_toArray, List.all_eq_true, decide_eq_true_eq]
    exact fun c hc => o.2 c hc
  | n + 1, .tup xs, v, h, r => by
    obtain ⟨a, vs, rfl, sq, rp⟩ := r
    obtain ⟨d, c⟩ := dps_of n xs vs (by simpa [P.shp] using h) rp
    exact ⟨.tup sq.sq d, by simp only [toPy, PyData.canLay0]; exact c⟩
  | n + 1, .lst xs, v, h, r => by
    obtain ⟨a, vs, rfl, _, sq, rp⟩ := r
    obtain ⟨d, c⟩ := dps_of n xs vs (by simpa [P.shp] using h) rp
    exact ⟨.lst (.of sq) d, by simp only [toPy, PyData.canLay0]; exact c⟩
  | 0, .tup xs, v, h, r => by simp [P.shp] at h
  | 0, .lst xs, v, h, r => by simp [P.shp] at h
  | n, .dic _ _, v, h, r => by cases n <;> simp [P.shp] at h
  | n, .scr _, v, h, r => by cases n <;> simp [P.shp] at h
theorem dps_of : ∀ (n : Nat) (xs : List P) (vs : List V), P.shps n xs = true → Reps K H pr xs vs → DpAll K H vs (toPys xs) ∧ PyData.canLayAll0 (toPys xs) = true
  | n, [], vs, h, r => by
    rw [Reps.nil_iff] at r
    subst r
    exact ⟨.nil, rfl⟩
  | n, x :: xs, vs, h, r => by
    obtain ⟨v, s, rfl, r1, r2⟩ := Reps.cons_iff.mp r
    simp only [P.shps, Bool.and_eq_true] at h
    obtain ⟨d1, c1⟩ := dp_of n x v h.1 r1
    obtain ⟨d2, c2⟩ := dps_of n xs s h.2 r2
    exact ⟨.cons d1 d2, by simp only [toPys, PyData.canLayAll0, c1, c2, Bool.and_self]⟩
end
theorem dp_top {n : Nat} {x : P} {v : V} (h : x.shp n = true) (r : RepT K H pr x v) : Dp K H v (toPy x) ∧ (toPy x).canLay0 = true := by
  cases x with
  | lst xs =>
    obtain ⟨a, vs, rfl, sq, rp⟩ := r
    cases n with
    | zero => simp [P.shp] at h
    | succ n =>
      obtain ⟨d, c⟩ := dps_of n xs vs (by simpa [P.shp] using h) rp
      exact ⟨.lst (.of sq) d, by simp only [toPy, PyData.canLay0]; exact c⟩
  | dic ks xs => cases n <;> simp [P.shp] at h
  | non => exact dp_of (pr := pr) n _ v h r
  | bl b => exact dp_of (pr := pr) n _ v h r
  | int b => exact dp_of (pr := pr) n _ v h r
  | str b => exact dp_of (pr := pr) n _ v h r
  | tup b => exact dp_of (pr := pr) n _ v h r
  | scr b => exact dp_of (pr := pr) n _ v h r
theorem shaped_of {x : P} (h : x.shp 60 = true) (c : (toPy x).canLay0 = true) : SeqAt.shaped (toPy x) = true := by
  unfold SeqAt.shaped
  rw [c, Bool.true_and, decide_eq_true_eq]
  exact Nat.le_trans (depth_py 60 x h) (by decide)
end
section
variable {K : PySem.W.Frag}
theorem ov_eq : OpV K (rOf2 (rEqD K)) eqP := .two (fun H pr x y v w z Q hp r1 r2 hf hq => by
  simp only [eqP] at hf
  split at hf
  · rename_i hc
    rw [Bool.and_eq_true] at hc
    cases hf
    obtain ⟨d1, c1⟩ := dp_top hc.1 r1
    obtain ⟨d2, c2⟩ := dp_top hc.2 r2
    refine ⟨_, _, d1, d2, shaped_of hc.1 c1, shaped_of hc.2 c2, ?_⟩
    rw [eqv_py 60 x y hc.1 hc.2]
    exact hq H _ (Same.refl _) rfl
  · cases hf) fun xs z h => ints2 h rfl (fun _ => by simp [eqP]) fun _ _ _ _ => by simp [eqP]
theorem ov_ne : OpV K (rOf2 (rNeD K)) neP := .two (fun H pr x y v w z Q hp r1 r2 hf hq => by
  simp only [neP] at hf
  split at hf
  · rename_i hc
    rw [Bool.and_eq_true] at hc
    cases hf
    obtain ⟨d1, c1⟩ := dp_top hc.1 r1
    obtain ⟨d2, c2⟩ := dp_top hc.2 r2
    refine ⟨_, _, d1, d2, shaped_of hc.1 c1, shaped_of hc.2 c2, ?_⟩
    rw [eqv_py 60 x y hc.1 hc.2]
    exact hq H _ (Same.refl _) rfl
  · cases hf) fun xs z h => ints2 h rfl (fun _ => by simp [neP]) fun _ _ _ _ => by simp [neP]
theorem RepT.isnone {H : Hp} {pr : Addr → Prop} {x : P} {v : V} (r : RepT K H pr x v) : v = .non ↔ x = .non := by
  cases x with
  | non => exact ⟨fun _ => rfl, fun _ => r⟩
  | bl b => cases r; simp
  | int b => cases r; simp
  | str b => obtain ⟨rfl, _⟩ := r; simp
  | tup b => obtain ⟨a, vs, rfl, _⟩ := r; simp
  | lst b => obtain ⟨a, vs, rfl, _⟩ := r; simp
  | scr b => obtain ⟨a, vs, rfl, _⟩ := r; simp
  | dic b c => obtain ⟨a, vs, u, rfl, _⟩ := r; simp
theorem isNoneP_eq {x : P} {z : P} (h : isNoneP [x] = some z) : z = .bl (decide (x = .non)) := by
  cases x <;> simp [isNoneP] at h <;> subst h <;> simp
theorem notNoneP_eq {x : P} {z : P} (h : notNoneP [x] = some z) : z = .bl (!decide (x = .non)) := by
  cases x <;> simp [notNoneP] at h <;> subst h <;> simp
end
/-! ### items -/
section
variable {K : PySem.W.Frag}
theorem ixN_eq (n : Nat) (i : Int) : ixN n i = ixN' n i := rfl
theorem at_reps {H : Hp} {pr : Addr → Prop} {xs : List P} {vs : List V} {i : Int} {z : P} (r : Reps K H pr xs vs) (h : atP xs i = some z) : ∃ v, atI vs i = some v ∧ Rep K H pr z v := by
  unfold atP at h
  unfold atI
  rw [← r.len]
  rw [show ixN xs.length i = ixN' xs.length i from rfl]
  cases q : ixN' xs.length i with
  | none => rw [q] at h; cases h
  | some j =>
    rw [q] at h
    exact r.get h
theorem ov_ix : OpV K (rOf2 (rIx K)) ixP := .two (fun H pr x y v w z Q hp r1 r2 hf hq => by
  unfold ixP at hf
  split at hf
  · rename_i e
    cases e
    obtain ⟨l1, vs1, rfl, s1, p1⟩ := r1.lst
    obtain ⟨u, e1, ru⟩ := at_reps p1 hf
    exact .inl ⟨l1, vs1, _, u, rfl, r2.int, .of s1, e1, hq H u (Same.refl _) ru⟩
  · rename_i e
    cases e
    obtain ⟨l1, vs1, rfl, s1, p1⟩ := r1.tup
    obtain ⟨u, e1, ru⟩ := at_reps p1 hf
    exact .inr (.inl ⟨l1, vs1, _, u, rfl, r2.int, s1.sq, e1, hq H u (Same.refl _) ru⟩)
  · rename_i e
    cases e
    obtain ⟨l1, vs1, rfl, s1, p1⟩ := r1.scr
    obtain ⟨u, e1, ru⟩ := at_reps p1 hf
    exact .inl ⟨l1, vs1, _, u, rfl, r2.int, s1, e1, hq H u (Same.refl _) ru⟩
  · rename_i s i e
    cases e
    obtain ⟨e1, o1⟩ := r1.str
    cases q : atP s i with
    | none => rw [q] at hf; cases hf
    | some c =>
      rw [q] at hf
      cases hf
      refine .inr (.inr ⟨strV s, i, c, e1, r2.int, by rw [len_strV]; exact o1.1, by rw [show (strV s).cps.toList = s by simp [strV]]; exact q, ?_⟩)
      refine hq H _ (Same.refl _) ⟨rfl, by rw [sizeLine_eq]; show 1 ≤ 16777216; decide, fun d hd => ?_⟩
      rw [List.mem_singleton.mp hd]
      unfold atP at q
      cases q2 : ixN' s.length i with
      | none => rw [q2] at q; cases q
      | some j => rw [q2] at q; exact o1.2 c (List.mem_of_getElem? q)
  · cases hf) fun xs z h => ints2 h rfl (fun _ => by simp [ixP]) fun _ _ _ _ => by simp [ixP]
/-! ### slices -/
theorem sIx_eq {n d : Nat} {l : P} {lo : Option Int} {k : Nat} (h : partO l = some lo) (e : sIx' n d l = some k) : HT.sIx n d lo = k := by
  cases l with
  | non => cases h; cases e; rfl
  | int v =>
    cases h
    simp only [sIx', Option.some.injEq] at e
    exact e
  | _ => cases h
theorem cut_reps {H : Hp} {pr : Addr → Prop} {xs : List P} {vs : List V} (r : Reps K H pr xs vs) (lo hi : Nat) : Reps K H pr (cutL xs lo hi) ((vs.drop lo).take (hi - lo)) := (r.drop lo).take _
theorem cutL_len {α : Type} (xs : List α) (lo hi : Nat) : (cutL xs lo hi).length ≤ xs.length := by
  unfold cutL
  rw [List.length_take, List.length_drop]
  omega
theorem okS_cut {x : List Nat} (h : okS x) (lo hi : Nat) : okS (cutL x lo hi) := ⟨Nat.le_trans (cutL_len x lo hi) h.1, fun c hc => h.2 c (List.mem_of_mem_drop (List.mem_of_mem_take hc))⟩
def rSliceAll (K : PySem.W.Frag) : V → Option Int → Option Int → Hp → VK → Prop := fun x lo hi H Q => rSlS x lo hi H Q ∨ rSlA K x lo hi H Q ∨ rSlL K x lo hi H Q
theorem sl_all {X : Cx} : SlR X (rSliceAll X.K) := sl_str.or (sl_tupA.or sl_list)
theorem os_slice : OpS K (rSliceAll K) sliceP := by
  intro H pr x l h v lo hi y Q hp r pl ph hf hq
  unfold sliceP at hf
  split at hf
  · rename_i s l' h' e
    cases e
    split at hf
    · rename_i a b e1 e2
      cases hf
      obtain ⟨e, o⟩ := r.str
      refine .inl ⟨_, e, by rw [len_strV]; exact o.1, ?_⟩
      have : cutS (strV s) lo hi = strV (cutL s a b) := by
        unfold cutS cutL strV
        have e0 : (Str.mk s.toArray).length = s.length := by simp [Str.length]
        rw [e0, sIx_eq pl e1, sIx_eq ph e2]
      rw [this]
      exact hq H _ (Same.refl _) ⟨rfl, okS_cut o _ _⟩
    · cases hf
  · rename_i s l' h' e
    cases e
    split at hf
    · rename_i a b e1 e2
      split at hf
      rotate_left
      · cases hf
      rename_i hg
      cases hf
      obtain ⟨t, vs, rfl, sq, rp⟩ := r.tup
      have hl := rp.len
      refine .inr (.inl ⟨t, vs, rfl, sq.sq, fun hw => ?_, fun hw p np => ?_⟩)
      · rw [← hl, sIx_eq pl e1, sIx_eq ph e2] at hw
        obtain ⟨w1, w2⟩ := hw
        have : cutL s a b = s := by
          unfold cutL
          rw [w1, w2]
          simp
        rw [this] at hq
        exact hq H _ (Same.refl _) ⟨t, vs, rfl, sq, rp⟩
      · have hnp : isPairs (cutL s a b) = false := by
          rcases hg with h | ⟨h1, h2⟩
          · exact h
          · exact absurd (by rw [← hl, sIx_eq pl e1, sIx_eq ph e2]; exact ⟨h1, h2⟩) hw
        refine hq _ _ (Same.new np) ⟨p, _, rfl, by rw [hnp]; exact SqT.new, ?_⟩
        unfold cutV
        rw [← hl, sIx_eq pl e1, sIx_eq ph e2]
        exact (cut_reps rp a b).same (Same.new np)
    · cases hf
  · rename_i s l' h' e
    cases e
    split at hf
    · rename_i a b e1 e2
      cases hf
      obtain ⟨t, vs, rfl, sq, rp⟩ := r.lst
      have hl := rp.len
      refine .inr (.inr ⟨t, vs, rfl, .of sq, fun p np => ?_⟩)
      refine hq _ _ (Same.new np) ⟨p, _, rfl, fun z => hp p z np, upd_same, ?_⟩
      unfold cutV
      rw [← hl, sIx_eq pl e1, sIx_eq ph e2]
      exact ((cut_reps rp a b).new np).less fun a z => .inl z
    · cases hf
  · rename_i s l' h' e
    cases e
    split at hf
    · rename_i a b e1 e2
      cases hf
      obtain ⟨t, vs, rfl, sq, rp⟩ := r.scr
      have hl := rp.len
      refine .inr (.inr ⟨t, vs, rfl, sq, fun p np => ?_⟩)
      refine hq _ _ (Same.new np) ⟨p, _, rfl, fun z => hp p z np, upd_same, ?_⟩
      unfold cutV
      rw [← hl, sIx_eq pl e1, sIx_eq ph e2]
      exact ((cut_reps rp a b).new np).less fun a z => .inl z
    · cases hf
  · cases hf
theorem osf_slice : OpSF K (rSliceAll K) sliceL := by
  intro H pr x l h v lo hi y Q hp r pl ph hf hq
  unfold sliceL at hf
  split at hf
  · rename_i s l' h' e
    cases e
    split at hf
    · rename_i a b e1 e2
      cases hf
      obtain ⟨t, vs, rfl, sq, rp⟩ := r.lst
      refine .inr (.inr ⟨t, vs, rfl, .of sq, fun p np => ?_⟩)
      refine hq.lst ?_ np
      unfold cutV
      rw [← rp.len, sIx_eq pl e1, sIx_eq ph e2]
      exact cut_reps rp a b
    · cases hf
  · rename_i s l' h' e
    cases e
    split at hf
    · rename_i a b e1 e2
      cases hf
      obtain ⟨t, vs, rfl, sq, rp⟩ := r.scr
      refine .inr (.inr ⟨t, vs, rfl, sq, fun p np => ?_⟩)
      refine hq.lst ?_ np
      unfold cutV
      rw [← rp.len, sIx_eq pl e1, sIx_eq ph e2]
      exact cut_reps rp a b
    · cases hf
  · cases hf
theorem sliceL_lst : ∀ xs y, sliceL xs = some y → ∃ xs, y = .lst xs := by
  intro xs y h
  unfold sliceL at h
  split at h
  · split at h
    · cases h; exact ⟨_, rfl⟩
    · cases h
  · split at h
    · cases h; exact ⟨_, rfl⟩
    · cases h
  · cases h
end
end DL

set_option maxRecDepth 100000
set_option maxHeartbeats 1000000
/-! DOpU: built-in functions, methods, changes of lists -/
namespace DL
open PySem PySem.Spec PyProof.Rows L2
section
variable {K : PySem.W.Frag}
theorem repTs1 {H : Hp} {pr : Addr → Prop} {x : P} {vs : List V} (h : RepTs K H pr [x] vs) : ∃ v, vs = [v] ∧ RepT K H pr x v := by
  obtain ⟨v, s, rfl, r, e⟩ := h
  cases e
  exact ⟨v, rfl, r⟩
theorem repTs2 {H : Hp} {pr : Addr → Prop} {x y : P} {vs : List V} (h : RepTs K H pr [x, y] vs) : ∃ v w, vs = [v, w] ∧ RepT K H pr x v ∧ RepT K H pr y w := by
  obtain ⟨v, s, rfl, r, w, s', rfl, r', e⟩ := h
  cases e
  exact ⟨v, w, rfl, r, r'⟩
def rLen (K : PySem.W.Frag) : List V → Hp → VK → Prop := fun xs H Q => ∃ x n, xs = [x] ∧ LenV K x H n ∧ Q (.int n) H
theorem ov_len : OpV K (rLen K) (fun xs => match xs with | [.dic _ _] => none | xs => lenP xs) := by
  intro H pr xs vs y Q hp hr hf hq
  match xs, hf with
  | [.lst xs], hf =>
    cases hf
    obtain ⟨v, rfl, r⟩ := repTs1 hr
    obtain ⟨a, ws, rfl, s, rp⟩ := r.lst
    exact ⟨_, _, rfl, .inl ⟨ws, .of s, rfl⟩, by rw [← rp.len]; exact hq H _ (Same.refl _) rfl⟩
  | [.tup xs], hf =>
    cases hf
    obtain ⟨v, rfl, r⟩ := repTs1 hr
    obtain ⟨a, ws, rfl, s, rp⟩ := r.tup
    exact ⟨_, _, rfl, .inr ⟨ws, s.sq, rfl⟩, by rw [← rp.len]; exact hq H _ (Same.refl _) rfl⟩
  | [.scr xs], hf =>
    cases hf
    obtain ⟨v, rfl, r⟩ := repTs1 hr
    obtain ⟨a, ws, rfl, s, rp⟩ := r.scr
    exact ⟨_, _, rfl, .inl ⟨ws, s, rfl⟩, by rw [← rp.len]; exact hq H _ (Same.refl _) rfl⟩
  | [.str x], hf =>
    cases hf
    obtain ⟨v, rfl, r⟩ := repTs1 hr
    obtain ⟨rfl, o⟩ := r.str
    exact ⟨_, x.length, rfl, ⟨by rw [len_strV]; exact o.1, by rw [len_strV]⟩, hq H _ (Same.refl _) rfl⟩
  | [], hf => simp [lenP] at hf
  | [.non], hf => simp [lenP] at hf
  | [.bl _], hf => simp [lenP] at hf
  | [.int _], hf => simp [lenP] at hf
  | [.dic _ _], hf => simp at hf
  | _ :: _ :: _, hf => simp [lenP] at hf
theorem ov_lenQ : OpV K (rLen K) lenQ := ov_len
theorem ov_max2 : OpV K (fun xs H Q => ∃ i j, xs = [.int i, .int j] ∧ Q (.int (if j > i then j else i)) H) max2P := by
  intro H pr xs vs y Q hp hr hf hq
  unfold max2P at hf
  split at hf
  · cases hf
    obtain ⟨v, w, rfl, r1, r2⟩ := repTs2 hr
    cases r1.int
    cases r2.int
    exact ⟨_, _, rfl, hq H _ (Same.refl _) rfl⟩
  · cases hf
theorem ov_min2 : OpV K (fun xs H Q => ∃ i j, xs = [.int i, .int j] ∧ Q (.int (if j < i then j else i)) H) min2P := by
  intro H pr xs vs y Q hp hr hf hq
  unfold min2P at hf
  split at hf
  · cases hf
    obtain ⟨v, w, rfl, r1, r2⟩ := repTs2 hr
    cases r1.int
    cases r2.int
    exact ⟨_, _, rfl, hq H _ (Same.refl _) rfl⟩
  · cases hf
theorem ov_abs : OpV K (fun xs H Q => ∃ i, xs = [.int i] ∧ Q (.int (if i < 0 then -i else i)) H) absP := by
  intro H pr xs vs y Q hp hr hf hq
  unfold absP at hf
  split at hf
  · cases hf
    obtain ⟨v, rfl, r1⟩ := repTs1 hr
    cases r1.int
    exact ⟨_, rfl, hq H _ (Same.refl _) rfl⟩
  · cases hf
theorem ov_int : OpV K (fun xs H Q => (∃ i, xs = [.int i] ∧ Q (.int i) H) ∨ ∃ k, xs = [.bl k] ∧ Q (.int (if k then 1 else 0)) H) intP := by
  intro H pr xs vs y Q hp hr hf hq
  unfold intP at hf
  split at hf
  · cases hf
    obtain ⟨v, rfl, r1⟩ := repTs1 hr
    cases r1.int
    exact .inl ⟨_, rfl, hq H _ (Same.refl _) rfl⟩
  · cases hf
    obtain ⟨v, rfl, r1⟩ := repTs1 hr
    cases r1.bl
    exact .inr ⟨_, rfl, hq H _ (Same.refl _) rfl⟩
  · cases hf
/-- tuple(xs) of a list, the new object known -/
def rTupKnown (K : PySem.W.Frag) : List V → Hp → VK → Prop := fun xs H Q => ∃ p ys, xs = [.ref p] ∧ SqL K H p ys ∧ ∀ (l : Addr) (o : Obj), H l = none → o.dict = none → Q (.ref l) (upd H l (.frz o (.tup ys)))
theorem call_tuple_known {X : Cx} : CallR X (.type "tuple") (rTupKnown X.K) := by
  intro pins s σ H vs us Q I r h
  obtain ⟨p, ys, rfl, hq, q⟩ := h
  obtain ⟨u, rfl, rx⟩ := vals1 r
  cases rx
  obtain ⟨its, rv, pl, hz⟩ := I.list hq
  have hn := rv.length
  refine call_tuple_list pl.isList (fun h' kp => ?_) (by rw [List.size_toArray]; omega)
  have J : L2.Inv X pins σ H { s with heap := h' } := I.kept (t' := s.toks) kp
  exact ⟨.ref h'.objs.size, _, J.laid (o := .frz { cls := .type "tuple", data := .seq its.toArray } (.tup ys)) (t' := s.toks) (fun b o e => Heap.get?_push_of_some _ e) (Nat.le_refl _)
    ⟨Heap.get?_push_size _ rfl, hz, its, rv, IsTup.new _ _⟩, rfl, q _ _ (J.hok.fresh (Nat.le_refl _)) rfl⟩
def rTupQ (K : PySem.W.Frag) : List V → Hp → VK → Prop := fun xs H Q => (∃ p ys, xs = [.ref p] ∧ ((SqL K H p ys ∧ ∀ l, H l = none → Q (.ref l) (upd H l (.tup ys))) ∨ (SqT K H p ys ∧ Q (.ref p) H))) ∨ rTupKnown K xs H Q
theorem call_tupleQ {X : Cx} : CallR X (.type "tuple") (rTupQ X.K) := CallR.or call_tuple_of call_tuple_known
theorem ov_tuple : OpV K (rTupQ K) tupleP := by
  intro H pr xs vs y Q hp hr hf hq
  unfold tupleP at hf
  split at hf
  · cases hf
    obtain ⟨v, rfl, r1⟩ := repTs1 hr
    obtain ⟨a, ws, rfl, s, rp⟩ := r1.lst
    rename_i xs
    cases hb : isPairs xs with
    | false => exact .inl ⟨a, ws, rfl, .inl ⟨.of s, fun l nl => hq _ _ (Same.new nl) ⟨l, ws, rfl, by rw [hb]; exact SqT.new, rp.same (Same.new nl)⟩⟩⟩
    | true => exact .inr ⟨a, ws, rfl, .of s, fun l o nl hd => hq _ _ (Same.new nl) ⟨l, ws, rfl, by rw [hb]; exact ⟨o, upd_same, hd⟩, rp.same (Same.new nl)⟩⟩
  · cases hf
    obtain ⟨v, rfl, r1⟩ := repTs1 hr
    obtain ⟨a, ws, rfl, s, rp⟩ := r1.tup
    exact .inl ⟨a, ws, rfl, .inr ⟨s.sq, hq _ _ (Same.refl _) ⟨a, ws, rfl, s, rp⟩⟩⟩
  · cases hf
def rListOf (K : PySem.W.Frag) : List V → Hp → VK → Prop := fun xs H Q => ∃ p ys, xs = [.ref p] ∧ (SqL K H p ys ∨ SqT K H p ys) ∧ ∀ l, H l = none → Q (.ref l) (upd H l (.lst ys))
theorem of_list : OpF K (rListOf K) listP := by
  intro H pr xs vs y Q hp hr hf hq
  unfold listP at hf
  split at hf
  · cases hf
    obtain ⟨v, rfl, r1⟩ := repTs1 hr
    obtain ⟨a, ws, rfl, s, rp⟩ := r1.lst
    exact ⟨a, ws, rfl, .inl (.of s), fun l nl => hq.lst rp nl⟩
  · cases hf
    obtain ⟨v, rfl, r1⟩ := repTs1 hr
    obtain ⟨a, ws, rfl, s, rp⟩ := r1.tup
    exact ⟨a, ws, rfl, .inr s.sq, fun l nl => hq.lst rp nl⟩
  · cases hf
    obtain ⟨v, rfl, r1⟩ := repTs1 hr
    obtain ⟨a, ws, rfl, s, rp⟩ := r1.scr
    exact ⟨a, ws, rfl, .inl s, fun l nl => hq.lst rp nl⟩
  · cases hf
theorem listP_lst : ∀ xs y, listP xs = some y → (∃ xs, y = .lst xs) ∨ (∃ ks xs, y = .dic ks xs) := by
  intro xs y h
  unfold listP at h
  split at h
  · cases h; exact .inl ⟨_, rfl⟩
  · cases h; exact .inl ⟨_, rfl⟩
  · cases h; exact .inl ⟨_, rfl⟩
  · cases h
/-! ### join -/
theorem strs_reps {H : Hp} {pr : Addr → Prop} : ∀ {xs : List P} {ys : List (List Nat)} {vs : List V}, Reps K H pr xs vs → strsP xs = some ys → vs = (ys.map strV).map V.str ∧ ∀ y ∈ ys, okS y
  | [], ys, vs, r, h => by
    cases h
    rw [Reps.nil_iff] at r
    exact ⟨r, fun y hy => by cases hy⟩
  | x :: xs, ys, vs, r, h => by
    obtain ⟨v, s, rfl, r1, r2⟩ := Reps.cons_iff.mp r
    cases x with
    | str z =>
      unfold strsP at h
      cases q : strsP xs with
      | none => rw [q] at h; cases h
      | some zs =>
        rw [q] at h
        cases h
        obtain ⟨e, o⟩ := strs_reps r2 q
        obtain ⟨rfl, oz⟩ := r1
        exact ⟨by rw [e]; rfl, fun y hy => (List.mem_cons.mp hy).elim (fun e => e ▸ oz) (o y)⟩
    | _ => cases h
theorem join_strV (a : List Nat) : ∀ ys : List (List Nat), Txt.join (strV a) (ys.map strV) = strV (joinL a ys)
  | [] => by
    rw [show Txt.join (strV a) (List.map strV []) = Builtin.Str.glued (strV a) [] from rfl, StrLaws.glued_eq_join]
    rfl
  | [x] => by
    rw [show Txt.join (strV a) (List.map strV [x]) = Builtin.Str.glued (strV a) [strV x] from rfl, StrLaws.glued_eq_join]
    rfl
  | x :: y :: r => by
    have ih := join_strV a (y :: r)
    rw [show Txt.join (strV a) (List.map strV (y :: r)) = Builtin.Str.glued (strV a) (List.map strV (y :: r)) from rfl, StrLaws.glued_eq_join] at ih
    rw [show Txt.join (strV a) (List.map strV (x :: y :: r)) = Builtin.Str.glued (strV a) (List.map strV (x :: y :: r)) from rfl, StrLaws.glued_eq_join]
    show strV x ++ strV a ++ Str.join (strV a) (List.map strV (y :: r)) = _
    rw [ih, strV_app, strV_app]
    rfl
theorem joinL_ok {a : List Nat} (ha : okS a) : ∀ {ys : List (List Nat)}, (∀ y ∈ ys, okS y) → (ys.map (·.length)).sum + ys.length * a.length ≤ line → okS (joinL a ys)
  | [], _, _ => ⟨Nat.zero_le _, fun c hc => by cases hc⟩
  | [x], h, _ => h x List.mem_cons_self
  | x :: y :: r, h, hs => by
    simp only [List.map_cons, List.sum_cons, List.length_cons] at hs
    have hlen : ∀ zs : List (List Nat), (joinL a zs).length ≤ (zs.map (·.length)).sum + zs.length * a.length := by
      intro zs
      induction zs with
      | nil => simp [joinL]
      | cons z zs ih =>
        cases zs with
        | nil => simp [joinL]
        | cons u us =>
          simp only [joinL, List.length_append, List.map_cons, List.sum_cons, List.length_cons] at ih ⊢
          have := Nat.add_mul (us.length + 1) 1 a.length
          omega
    have h2 := hlen (y :: r)
    simp only [List.map_cons, List.sum_cons, List.length_cons] at h2
    have e1 := Nat.add_mul (r.length + 1) 1 a.length
    have ih := joinL_ok ha (ys := y :: r) (fun z hz => h z (List.mem_cons_of_mem _ hz)) (by simp only [List.map_cons, List.sum_cons, List.length_cons]; omega)
    refine ⟨?_, fun c hc => ?_⟩
    · rw [← line_eq]
      simp only [joinL, List.length_append]
      omega
    · rcases List.mem_append.mp hc with hc | hc
      · rcases List.mem_append.mp hc with hc | hc
        · exact (h x List.mem_cons_self).2 c hc
        · exact ha.2 c hc
      · exact ih.2 c hc
def rJoin (K : PySem.W.Frag) : V → List V → Hp → VK → Prop := fun x xs H Q => ∃ a p, ∃ ys : List Str, x = .str a ∧ xs = [.ref p] ∧ (SqL K H p (ys.map V.str) ∨ SqT K H p (ys.map V.str)) ∧
    (ys.map (·.length)).sum + ys.length * a.length ≤ 16777216 ∧ Q (.str (Txt.join a ys)) H
theorem sum_strV (ys : List (List Nat)) : ((ys.map strV).map (·.length)).sum = (ys.map (·.length)).sum := by
  congr 1
  rw [List.map_map]
  apply List.map_congr_left
  intro x _
  exact len_strV x
theorem ov_join : OpV K (rOfM (rJoin K)) joinP := by
  intro H pr xs vs y Q hp hr hf hq x0 xs0 e0
  unfold joinP at hf
  split at hf
  · rename_i a zs
    obtain ⟨v, w, rfl, r1, r2⟩ := repTs2 hr
    cases e0
    split at hf
    · rename_i ys q
      split at hf
      · rename_i hs
        cases hf
        obtain ⟨e1, o1⟩ := r1.str
        obtain ⟨p, ws, rfl, s, rp⟩ := r2.lst
        obtain ⟨e2, o2⟩ := strs_reps rp q
        refine ⟨strV a, p, ys.map strV, e1, rfl, .inl (.of (by rw [← e2]; exact s)), ?_, ?_⟩
        · rw [sum_strV, List.length_map, len_strV]
          exact hs
        · rw [join_strV]
          exact hq H _ (Same.refl _) ⟨rfl, joinL_ok o1 o2 hs⟩
      · cases hf
    · cases hf
  · rename_i a zs
    obtain ⟨v, w, rfl, r1, r2⟩ := repTs2 hr
    cases e0
    split at hf
    · rename_i ys q
      split at hf
      · rename_i hs
        cases hf
        obtain ⟨e1, o1⟩ := r1.str
        obtain ⟨p, ws, rfl, s, rp⟩ := r2.tup
        obtain ⟨e2, o2⟩ := strs_reps rp q
        refine ⟨strV a, p, ys.map strV, e1, rfl, .inr (by rw [← e2]; exact s.sq), ?_, ?_⟩
        · rw [sum_strV, List.length_map, len_strV]
          exact hs
        · rw [join_strV]
          exact hq H _ (Same.refl _) ⟨rfl, joinL_ok o1 o2 hs⟩
      · cases hf
    · cases hf
  · cases hf
/-! ### all, any -/
theorem bools_reps {H : Hp} {pr : Addr → Prop} : ∀ {xs : List P} {bs : List Bool} {vs : List V}, Reps K H pr xs vs → bools xs = some bs → vs = bs.map V.bl
  | [], bs, vs, r, h => by
    cases h
    exact Reps.nil_iff.mp r
  | x :: xs, bs, vs, r, h => by
    obtain ⟨v, s, rfl, r1, r2⟩ := Reps.cons_iff.mp r
    cases x with
    | bl b =>
      unfold bools at h
      cases q : bools xs with
      | none => rw [q] at h; cases h
      | some cs =>
        rw [q] at h
        cases h
        rw [bools_reps r2 q, show v = .bl b from r1]
        rfl
    | _ => cases h
theorem ov_all : OpV K (rAll K) allP := by
  intro H pr xs vs y Q hp hr hf hq
  unfold allP at hf
  split at hf
  · rename_i zs
    obtain ⟨v, rfl, r1⟩ := repTs1 hr
    obtain ⟨a, ws, rfl, s, rp⟩ := r1.lst
    cases q : bools zs with
    | none => rw [q] at hf; cases hf
    | some bs =>
      rw [q] at hf
      cases hf
      exact ⟨a, bs, rfl, .of (by rw [← bools_reps rp q]; exact s), hq H _ (Same.refl _) rfl⟩
  · cases hf
theorem ov_any : OpV K (rAny K) anyP := by
  intro H pr xs vs y Q hp hr hf hq
  unfold anyP at hf
  split at hf
  · rename_i zs
    obtain ⟨v, rfl, r1⟩ := repTs1 hr
    obtain ⟨a, ws, rfl, s, rp⟩ := r1.lst
    cases q : bools zs with
    | none => rw [q] at hf; cases hf
    | some bs =>
      rw [q] at hf
      cases hf
      exact ⟨a, bs, rfl, .of (by rw [← bools_reps rp q]; exact s), hq H _ (Same.refl _) rfl⟩
  · cases hf
/-! ### in -/
theorem ov_inSign : OpV K (rOf2 fun x y H Q => ∃ (c : Nat) (z : Str), x = .str ⟨#[c]⟩ ∧ y = .str z ∧ Q (.bl (decide (c ∈ z.cps.toList))) H) inSignP := .two (fun H pr x y v w z Q hp r1 r2 hf hq => by
  unfold inSignP at hf
  split at hf
  · rename_i c t e
    cases e
    cases hf
    refine ⟨c, strV t, r1.str.1, r2.str.1, ?_⟩
    rw [show (strV t).cps.toList = t by simp [strV]]
    exact hq H _ (Same.refl _) rfl
  · cases hf) fun xs z h => ints2 h rfl (fun _ => by simp [inSignP]) fun _ _ _ _ => by simp [inSignP]
theorem ov_notInSign : OpV K (rOf2 fun x y H Q => ∃ (c : Nat) (z : Str), x = .str ⟨#[c]⟩ ∧ y = .str z ∧ Q (.bl (!decide (c ∈ z.cps.toList))) H) notInSignP := .two (fun H pr x y v w z Q hp r1 r2 hf hq => by
  unfold notInSignP at hf
  split at hf
  · rename_i c t e
    cases e
    cases hf
    refine ⟨c, strV t, r1.str.1, r2.str.1, ?_⟩
    rw [show (strV t).cps.toList = t by simp [strV]]
    exact hq H _ (Same.refl _) rfl
  · cases hf) fun xs z h => ints2 h rfl (fun _ => by simp [notInSignP]) fun _ _ _ _ => by simp [notInSignP]
end
/-! ### isinstance -/
def Tys (T : String) : Prop := T = "bool" ∨ T = "int" ∨ T = "str" ∨ T = "tuple" ∨ T = "list" ∨ T = "dict"
/-- a value's type, and what the library asks of it -/
def TyZ (K : PySem.W.Frag) (H : Hp) (v : V) (t : Value) : Prop := TyX K H v t ∨ (t = .type "dict" ∧ ∃ a kvs, v = .ref a ∧ Rd H a (.dT kvs))
def rIsZ (K : PySem.W.Frag) : List V → Hp → VK → Prop := fun xs H Q => ∃ (x c : V) (t u : Value) (b : Bool), xs = [x, c] ∧ ClsV c u ∧ TyZ K H x t ∧ PySem.W.kitOne K t u = some b ∧ Q (.bl b) H
theorem call_isZ {X : Cx} : CallR X (.builtin "isinstance") (rIsZ X.K) := by
  intro pins s σ H xs us Q I r h
  obtain ⟨x, c, t, u, b, rfl, k, ty, e, q⟩ := h
  obtain ⟨u1, u2, rfl, r1, r2⟩ := vals2 r
  have e2 := k.eq r2
  subst e2
  rcases ty with ty | ⟨rfl, a, kvs, rfl, rd⟩
  · obtain ⟨P, Z, p, hx⟩ := kit_of I r1 ty
    exact PySem.W.kia_one Z I.kIn p e hx fun tk => ⟨.bl b, H, I.tok tk, rfl, q⟩
  · cases (show u1 = Value.ref a from r1)
    obtain ⟨_, _, xs, _, o, es, ep, h1, h2, _⟩ := rd.ok I.hok
    exact PySem.W.kia_one PySem.W.kitx_dict I.kIn ⟨o, h1, h2.1⟩ e (fun z => nomatch z) fun tk => ⟨.bl b, H, I.tok tk, rfl, q⟩
theorem tyx_of {K : PySem.W.Frag} {H : Hp} {pr : Addr → Prop} {x : P} {v : V} (r : RepT K H pr x v) {T : String} {b : Bool} (h : isTyP T x = some b) (hT : Tys T) : ∃ t, TyZ K H v t ∧ PySem.W.kitOne K t (.type T) = some b := by
  cases x with
  | non =>
    cases r
    refine ⟨_, .inl (.base .non), kit_ty ?_⟩
    cases h
    rcases hT with rfl | rfl | rfl | rfl | rfl | rfl <;> decide +kernel
  | bl c =>
    cases r.bl
    refine ⟨_, .inl (.base (.bl _)), kit_ty ?_⟩
    cases h
    rcases hT with rfl | rfl | rfl | rfl | rfl | rfl <;> decide +kernel
  | int c =>
    cases r.int
    refine ⟨_, .inl (.base (.int _)), kit_ty ?_⟩
    cases h
    rcases hT with rfl | rfl | rfl | rfl | rfl | rfl <;> decide +kernel
  | str c =>
    obtain ⟨rfl, _⟩ := r.str
    refine ⟨_, .inl (.base (.str _)), kit_ty ?_⟩
    cases h
    rcases hT with rfl | rfl | rfl | rfl | rfl | rfl <;> decide +kernel
  | tup c =>
    obtain ⟨a, vs, rfl, s, _⟩ := r.tup
    have : TyX K H (.ref a) (.type "tuple") := by
      rcases s.rd with s | ⟨o, s⟩
      · exact .base (.tup s)
      · exact .fTuple s
    refine ⟨_, .inl this, kit_ty ?_⟩
    cases h
    rcases hT with rfl | rfl | rfl | rfl | rfl | rfl <;> decide +kernel
  | lst c =>
    obtain ⟨a, vs, rfl, s, _⟩ := r.lst
    refine ⟨_, .inl (.base (.lst s)), kit_ty ?_⟩
    cases h
    rcases hT with rfl | rfl | rfl | rfl | rfl | rfl <;> decide +kernel
  | dic c d =>
    obtain ⟨a, vs, u, rfl, s, d, _⟩ := r
    have : TyZ K H (.ref a) (.type "dict") := by
      rcases d.2 with ⟨kk, _, e⟩ | ⟨kk, _, e⟩
      · subst e
        rcases s with s | ⟨o, s⟩
        · exact .inl (.base (.dK s))
        · exact .inl (.fDict s)
      · subst e
        exact .inr ⟨rfl, a, _, rfl, s⟩
    refine ⟨_, this, kit_ty ?_⟩
    cases h
    rcases hT with rfl | rfl | rfl | rfl | rfl | rfl <;> decide +kernel
  | scr c => cases h
section
variable {X : Cx} {cl : Cls_} {W : WX} {rn : Rn} {pos : Pos}
/-- isinstance(x, T), T a built-in type -/
theorem de_isi {T : String} {x : Str} {p p2 : Pos} {a : Expr} {i : IE} (hT : Tys T) (hx : x = (T : Str)) (hg : Gl X "isinstance") (hm : X.mg "isinstance" = none) (hgT : Gl X x) (hmT : X.mg x = none) (hbT : bootBuiltins x = some (.type T)) (hnT : x ≠ "__name__") (hdT : (x == ("__debug__" : Str)) = false) (ha : DE X cl W a (evE rn i))
    (he1 : starEach [a, .Name x p2] X.env = (false, eval a X.env) :: starEach [.Name x p2] X.env) (he2 : starEach [.Name x p2] X.env = (false, eval (.Name x p2) X.env) :: starEach [] X.env) (hpl : (backTo pos (starEach [.Name x p2] X.env)).any (·.1) = false) :
    DE X cl W (.Call (.Name "isinstance" p) [a, .Name x p2] [] pos) (evE rn (.op (isiP T) (.cons i .nil))) := by
  refine PE.imp (pe_callB call_isZ hg hm (by decide +kernel) (pa_cons ha (pa_cons (pe_bltn (v := .ty T) hgT hmT hbT rfl hnT hdT) pa_nil he2) he1) (by decide) (by decide) he1 hpl) fun σ H Q h => ?_
  obtain ⟨m, B, e, S, hS, hE, h⟩ := h
  rw [ev_op1] at h
  refine tG_bind hS hE h fun d S1 m1 H1 v x1 hS1 hE1 r1 h1 eq1 => ?_
  unfold opK at h1
  cases q : vals S1 [d] with
  | none => rw [q] at h1; exact h1.elim
  | some xs =>
    rw [q] at h1
    dsimp only at h1
    obtain ⟨y, ys, rfl, e1, e2⟩ : ∃ y ys, xs = y :: ys ∧ val S1 d = some y ∧ ys = [] := by
      unfold vals at q
      cases q1 : val S1 d with
      | none => rw [q1] at q; cases q
      | some y => rw [q1] at q; cases q; exact ⟨y, [], rfl, rfl, rfl⟩
    subst e2
    dsimp only [isiP] at h1
    cases q2 : isTyP T y with
    | none => rw [q2] at h1; exact h1.elim
    | some b =>
      rw [q2] at h1
      obtain ⟨t, ty, k⟩ := tyx_of (r1.top hS1 e1) q2 hT
      exact ⟨v, .ty T, t, .type T, b, rfl, .ty T, ty, k, EndG.here h1 hS1 rfl⟩
/-! ### in range -/
theorem op_notin_rng : OpR X (compareOp .NotIn) (fun x y H Q => ∃ i a lo hi, x = V.int i ∧ y = V.ref a ∧ H a = some (.rng lo hi) ∧ Q (.bl (!decide (lo ≤ i ∧ i < hi))) H) := by
  intro pins s σ H x y v u Q I rx ry h
  obtain ⟨i, a, lo, hi, rfl, rfl, ha, q⟩ := h
  obtain ⟨k, rfl⟩ := rx
  obtain rfl : u = Value.ref a := ry
  obtain ⟨t1, t2, t3, ho⟩ := I.hok a _ ha
  show wpAny _ _ (do return Value.bool (! (← contains (Value.ref a) (Value.int i k)))) _ _ s
  refine wpAny_bind (wpAny_contains_slot (T := "range") ⟨_, ho, rfl⟩ F.slot_range_contains (call_meets F.slot_range_contains ⟨_, ho, rfl⟩ F.entry_range_contains (F.args_range_contains_2 _ _) (q_contains a lo hi i t1 t2 t3 k)
    ⟨ho, wpAny_truthy_bool (wpAny_pure ⟨.bl _, H, I, rfl, ?_⟩)⟩))
  rw [place1]
  exact q
theorem val_int' {S : Store} {d : D} {i : Int} (h : val S d = some (.int i)) : d = .p (.int i) := by
  cases d with
  | p x => cases h; rfl
  | ref l =>
    dsimp only [val] at h
    cases q : S[l]? with
    | none => rw [q] at h; cases h
    | some o => rw [q] at h; cases o <;> cases h
  | exc c fs => cases h
theorem vals3' {S : Store} {d e f : D} {xs : List P} (h : vals S [d, e, f] = some xs) : ∃ x y z, xs = [x, y, z] ∧ val S d = some x ∧ val S e = some y ∧ val S f = some z := by
  unfold vals vals vals vals at h
  cases q1 : val S d with
  | none => rw [q1] at h; cases h
  | some x =>
    cases q2 : val S e with
    | none => rw [q1, q2] at h; cases h
    | some y =>
      cases q3 : val S f with
      | none => rw [q1, q2, q3] at h; cases h
      | some z =>
        rw [q1, q2, q3] at h
        cases h
        exact ⟨x, y, z, rfl, rfl, rfl, rfl⟩
/-- x in range(a, b) -/
theorem rng_of {K : Kx} {neg : Bool} {f : List P → Option P} (hf : ∀ xs z, f xs = some z → ∃ i lo hi, xs = [.int i, .int lo, .int hi] ∧ z = .bl (if neg then !decide (lo ≤ i ∧ i < hi) else decide (lo ≤ i ∧ i < hi))) {i j k : IE} {σ : L2.St} {H : Hp} {Q : VK}
    (h : tG K cl W (rD K) (evE rn (.op f (.cons i (.cons j (.cons k .nil))))) σ H Q) :
    tOp (fun x y H Q => ∃ i a lo hi, x = V.int i ∧ y = V.ref a ∧ H a = some (.rng lo hi) ∧ Q (.bl (if neg then !decide (lo ≤ i ∧ i < hi) else decide (lo ≤ i ∧ i < hi))) H) (tG K cl W (rD K) (evE rn i))
      (tCB (fun vs H Q => ∃ i j, vs = [V.int i, V.int j] ∧ ∀ p, H p = none → Q (.ref p) (upd H p (.rng i j))) (tG K cl W (rDs K) (evEs rn (.cons j (.cons k .nil))))) σ H Q := by
  obtain ⟨m, B, e, S, hS, hE, h⟩ := h
  rw [ev_op3] at h
  refine tG_bind hS hE h fun d S1 m1 H1 v x1 hS1 hE1 r1 h1 eq1 => ?_
  have h1 : EndG K cl W (rD K) m1 B σ H1 ((evEs rn (.cons j (.cons k .nil)) e S1).bind fun ds S3 => opK f (d :: ds) S3) Q := by
    simp only [evEs, R.bind_assoc, R.bind_ok]
    exact h1
  refine tG_bind hS1 hE1 h1 fun ds S2 m2 H2 vs x2 hS2 hE2 r2 h2 eq2 => ?_
  have hl := evEs_len eq2
  obtain ⟨d2, d3, rfl⟩ : ∃ d2 d3, ds = [d2, d3] := by
    match ds, hl with
    | [d2, d3], _ => exact ⟨d2, d3, rfl⟩
  unfold opK at h2
  cases q : vals S2 [d, d2, d3] with
  | none => rw [q] at h2; exact h2.elim
  | some xs =>
    rw [q] at h2
    dsimp only at h2
    cases q2 : f xs with
    | none => rw [q2] at h2; exact h2.elim
    | some y =>
      rw [q2] at h2
      obtain ⟨ii, lo, hi, rfl, rfl⟩ := hf _ _ q2
      obtain ⟨x, y, z, e0, e1, e2, e3⟩ := vals3' q
      cases e0
      cases val_int' e1
      cases val_int' e2
      cases val_int' e3
      obtain ⟨w2, s2, rfl, t2, w3, s3, es, t3, es3⟩ := r2
      cases es3
      subst es
      cases t2
      cases t3
      cases r1
      refine ⟨lo, hi, rfl, fun p np => ⟨ii, p, lo, hi, rfl, rfl, upd_same, ?_⟩⟩
      exact h2 m2 _ _ (.same (Same.new np)) (hS2.same (Same.new np)) rfl
theorem de_inRange {p : Pos} {a b c : Expr} {i j k : IE} {pos2 : Pos} (hg : Gl X "range") (hm : X.mg "range" = none) (ha : DE X cl W a (evE rn i)) (hb : DA X cl W [b, c] (evEs rn (.cons j (.cons k .nil))))
    (he : starEach [b, c] X.env = (false, eval b X.env) :: starEach [c] X.env) (hpl : (backTo pos2 (starEach [c] X.env)).any (·.1) = false) (hmk : behindInMarks .In (.Call (.Name "range" p) [b, c] [] pos2) = false) :
    DE X cl W (.Compare a [.In] [.Call (.Name "range" p) [b, c] [] pos2] pos) (evE rn (.op inRangeP (.cons i (.cons j (.cons k .nil))))) :=
  PE.imp (pe_cmpR op_in_rng ha (pe_callTy cr_range2 hg hm boot_range hb (by decide) (by decide) he hpl) hmk) fun σ H Q h => rng_of (neg := false) (fun xs z hf => by
    unfold inRangeP at hf
    split at hf
    · cases hf; exact ⟨_, _, _, rfl, rfl⟩
    · cases hf) h
theorem dt_inRange {p : Pos} {a b c : Expr} {i j k : IE} {pos2 : Pos} (hg : Gl X "range") (hm : X.mg "range" = none) (ha : DE X cl W a (evE rn i)) (hb : DA X cl W [b, c] (evEs rn (.cons j (.cons k .nil))))
    (he : starEach [b, c] X.env = (false, eval b X.env) :: starEach [c] X.env) (hpl : (backTo pos2 (starEach [c] X.env)).any (·.1) = false) (hmk : behindInMarks .In (.Call (.Name "range" p) [b, c] [] pos2) = false) :
    DT X cl W (.Compare a [.In] [.Call (.Name "range" p) [b, c] [] pos2] pos) (evE rn (.op inRangeP (.cons i (.cons j (.cons k .nil))))) :=
  PT.imp (pt_cmpR op_in_rng ha (pe_callTy cr_range2 hg hm boot_range hb (by decide) (by decide) he hpl) hmk) fun σ H Q h => rng_of (neg := false) (fun xs z hf => by
    unfold inRangeP at hf
    split at hf
    · cases hf; exact ⟨_, _, _, rfl, rfl⟩
    · cases hf) (test_of h)
theorem dt_notInRange {p : Pos} {a b c : Expr} {i j k : IE} {pos2 : Pos} (hg : Gl X "range") (hm : X.mg "range" = none) (ha : DE X cl W a (evE rn i)) (hb : DA X cl W [b, c] (evEs rn (.cons j (.cons k .nil))))
    (he : starEach [b, c] X.env = (false, eval b X.env) :: starEach [c] X.env) (hpl : (backTo pos2 (starEach [c] X.env)).any (·.1) = false) (hmk : behindInMarks .NotIn (.Call (.Name "range" p) [b, c] [] pos2) = false) :
    DT X cl W (.Compare a [.NotIn] [.Call (.Name "range" p) [b, c] [] pos2] pos) (evE rn (.op notInRangeP (.cons i (.cons j (.cons k .nil))))) :=
  PT.imp (pt_cmpR op_notin_rng ha (pe_callTy cr_range2 hg hm boot_range hb (by decide) (by decide) he hpl) hmk) fun σ H Q h => rng_of (neg := true) (fun xs z hf => by
    unfold notInRangeP at hf
    split at hf
    · cases hf; exact ⟨_, _, _, rfl, rfl⟩
    · cases hf) (test_of h)
end
end DL

set_option maxRecDepth 100000
set_option maxHeartbeats 1000000
/-! DOpV: new lists by + and *, None, += -/
namespace DL
open PySem PySem.Spec PyProof.Rows L2
section
variable {K : PySem.W.Frag}
theorem of_cat : OpF K (rOf2 rCat) catP := by
  intro H pr xs vs y Q hp hr hf hq v w e
  unfold catP at hf
  split at hf
  · rename_i a b
    split at hf
    · rename_i hc
      cases hf
      rw [line_eq] at hc
      obtain ⟨v1, w1, e1, r1, r2⟩ := repTs2 hr
      rw [e] at e1
      cases e1
      obtain ⟨l1, vs1, rfl, s1, p1⟩ := r1.lst
      obtain ⟨l2, vs2, rfl, s2, p2⟩ := r2.lst
      exact ⟨l1, l2, vs1, vs2, rfl, rfl, s1, s2, by rw [← p1.len, ← p2.len]; exact hc, fun p np => hq.lst (p1.append p2) np⟩
    · cases hf
  · cases hf
theorem catP_lst : ∀ xs y, catP xs = some y → (∃ xs, y = .lst xs) ∨ (∃ ks xs, y = .dic ks xs) := by
  intro xs y h
  unfold catP at h
  split at h
  · split at h
    · cases h; exact .inl ⟨_, rfl⟩
    · cases h
  · cases h
theorem of_rep : OpF K (rOf2 rRep) repP := by
  intro H pr xs vs y Q hp hr hf hq v w e
  unfold repP at hf
  split at hf
  · rename_i a b
    split at hf
    · rename_i hc
      cases hf
      rw [line_eq] at hc
      obtain ⟨v1, w1, e1, r1, r2⟩ := repTs2 hr
      rw [e] at e1
      cases e1
      obtain ⟨l1, vs1, rfl, s1, p1⟩ := r1.lst
      exact ⟨l1, _, vs1, rfl, r2.int, s1, hc.1, hc.2.1, by rw [← p1.len]; exact hc.2.2, fun p np => hq.lst (p1.rep _) np⟩
    · cases hf
  · cases hf
theorem repP_lst : ∀ xs y, repP xs = some y → (∃ xs, y = .lst xs) ∨ (∃ ks xs, y = .dic ks xs) := by
  intro xs y h
  unfold repP at h
  split at h
  · split at h
    · cases h; exact .inl ⟨_, rfl⟩
    · cases h
  · cases h
theorem isN_two {f : List P → Option P} {g : Bool → Bool} (hf : ∀ x z, f [x, .non] = some z → z = .bl (g (decide (x = .non)))) (h2 : ∀ xs z, f xs = some z → ∃ x, xs = [x, .non]) : OpV K (rOf2 fun x y H Q => y = .non ∧ Q (.bl (g (decide (x = .non)))) H) f := .two (fun H pr x y v w z Q hp r1 r2 h hq => by
  obtain ⟨x', e⟩ := h2 _ _ h
  cases e
  have e := hf _ _ h
  subst e
  refine ⟨r2, ?_⟩
  have : decide (v = V.non) = decide (x = P.non) := by
    rw [Bool.eq_iff_iff]
    simp only [decide_eq_true_eq]
    exact r1.isnone
  rw [this]
  exact hq H _ (Same.refl _) rfl) fun xs z h => by
  obtain ⟨x, rfl⟩ := h2 _ _ h
  exact ⟨_, _, rfl⟩
theorem ov_isN : OpV K (rOf2 fun x y H Q => y = .non ∧ Q (.bl (decide (x = .non))) H) isP := isN_two (g := id) (fun x z h => isNoneP_eq h) fun xs z h => by
  unfold isP at h
  split at h
  · exact ⟨_, rfl⟩
  · cases h
theorem ov_notN : OpV K (rOf2 fun x y H Q => y = .non ∧ Q (.bl (!decide (x = .non))) H) isNotP := isN_two (g := fun b => !b) (fun x z h => notNoneP_eq h) fun xs z h => by
  unfold isNotP at h
  split at h
  · exact ⟨_, rfl⟩
  · cases h
theorem ov_iadd : OpV K (rOf2 (ipI fun i j => i + j)) (fun xs => match xs with | [.int a, .int b] => some (.int (a + b)) | _ => none) := .two (fun H pr x y v w z Q hp r1 r2 hf hq => by
  split at hf
  · rename_i e
    cases e
    cases hf
    exact ⟨_, _, r1.int, r2.int, hq H _ (Same.refl _) rfl⟩
  · cases hf) fun xs z h => by
  split at h
  · exact ⟨_, _, rfl⟩
  · cases h
end
end DL

set_option maxRecDepth 100000
set_option maxHeartbeats 1000000
/-! DM: changes of objects -/
namespace DL
open PySem PySem.Spec PyProof.Rows L2
/-- what stands at an address, for an object of the store -/
def RepU (K : Kx) (H : Hp) (m : Mp) (B : Addr → Prop) (u : HO) : O → Prop
  | .lst xs => ∃ vs, u = .lst vs ∧ Reps K H (Pr m B) xs vs
  | .dic kvs => ∃ vs, DicO (kvs.map (·.1)) vs u ∧ Reps K H (Pr m B) (kvs.map (·.2)) vs
  | .dir kvs => ∃ vs, DicO (kvs.map (·.1)) vs u ∧ RepDs K H m B (kvs.map fun p => .ref p.2) vs
  | .dead => False
section
variable {K : Kx} {H : Hp} {m : Mp} {B : Addr → Prop} {S : Store} {a : Addr} {l : Nat} {o o' : O} {u u' : HO}
theorem repO_u (h : RepO K H m B a o) : ∃ u, H a = some u ∧ RepU K H m B u o := by
  cases o with
  | lst xs => obtain ⟨vs, e, r⟩ := h; exact ⟨_, e, vs, rfl, r⟩
  | dic kvs => obtain ⟨vs, u, e, d, r⟩ := h; exact ⟨u, e, vs, d, r⟩
  | dir kvs => obtain ⟨vs, u, e, d, r⟩ := h; exact ⟨u, e, vs, d, r⟩
  | dead => exact h.elim
theorem repU_o (h : RepU K H m B u o) (e : H a = some u) : RepO K H m B a o := by
  cases o with
  | lst xs => obtain ⟨vs, rfl, r⟩ := h; exact ⟨vs, e, r⟩
  | dic kvs => obtain ⟨vs, d, r⟩ := h; exact ⟨vs, u, e, d, r⟩
  | dir kvs => obtain ⟨vs, d, r⟩ := h; exact ⟨vs, u, e, d, r⟩
  | dead => exact h.elim
/-- lists and dicts alone change -/
def Chg (u : HO) : Prop := (∃ vs, u = .lst vs) ∨ (∃ kvs, u = .dK kvs) ∨ ∃ kvs, u = .dT kvs
theorem RepU.chg (h : RepU K H m B u o) : Chg u := by
  cases o with
  | lst xs => obtain ⟨vs, rfl, r⟩ := h; exact .inl ⟨_, rfl⟩
  | dic kvs => obtain ⟨vs, d, r⟩ := h; exact d.2.elim (fun ⟨_, _, e⟩ => .inr (.inl ⟨_, e⟩)) fun ⟨_, _, e⟩ => .inr (.inr ⟨_, e⟩)
  | dir kvs => obtain ⟨vs, d, r⟩ := h; exact d.2.elim (fun ⟨_, _, e⟩ => .inr (.inl ⟨_, e⟩)) fun ⟨_, _, e⟩ => .inr (.inr ⟨_, e⟩)
  | dead => exact h.elim
theorem Chg.notup (h : Chg u) (e : H a = some u) {b : Addr} {w : HO} (t : TupU w) (r : H b = some w) : b ≠ a := fun z => by
  subst z
  rw [e] at r
  cases r
  rcases h with ⟨vs, rfl⟩ | ⟨vs, rfl⟩ | ⟨vs, rfl⟩ <;> rcases t with ⟨_, t⟩ | ⟨_, _, t⟩ <;> cases t
theorem mono_put {pr : Addr → Prop} (hp : pr a) (c : Chg u) (e : H a = some u) : (∀ b o, ¬ pr b → H b = some o → (upd H a u') b = some o ∧ ¬ pr b) ∧ ∀ b w, TupU w → H b = some w → (upd H a u') b = some w := by
  refine ⟨fun b o n r => ⟨(upd_ne (fun z => n (by rw [z]; exact hp))).trans r, n⟩, fun b w t r => ?_⟩
  have n := c.notup e t r
  exact (upd_ne n).trans r
theorem put_ext (am : some a ∈ m) (c : Chg u) (e : H a = some u) : Ext m H m (upd H a u') where
  len := Nat.le_refl _
  keep := fun _ _ e => .inl e
  obj := fun b o n r => ⟨(upd_ne (fun z => n (by rw [z]; exact am))).trans r, n⟩
  tup := (mono_put (pr := fun b => some b ∈ m) am c e).2
  dom := fun b h => by
    by_cases z : b = a
    · subst z; rw [upd_same]; exact fun z => nomatch z
    · rw [upd_ne z]; exact h
theorem RepDs.put (am : Pr m B a) (c : Chg u) (e : H a = some u) : ∀ {ds : List D} {vs : List V}, RepDs K H m B ds vs → RepDs K (upd H a u') m B ds vs
  | [], vs, h => h
  | d :: r, vs, h => by
    obtain ⟨v, s, rfl, h1, h2⟩ := h
    refine ⟨v, s, rfl, ?_, RepDs.put am c e h2⟩
    cases d with
    | p x => exact Rep.mono (mono_put am c e).1 (mono_put am c e).2 _ _ h1
    | ref l => exact h1
    | exc _ fs =>
      obtain ⟨g, e1, e2, e3, e4⟩ := h1
      exact ⟨g, e1, e2, e3, e4.mono (mono_put am c e).1 (mono_put am c e).2⟩
theorem RepU.put {w : HO} (am : Pr m B a) (c : Chg u) (e : H a = some u) (h : RepU K H m B w o) : RepU K (upd H a u') m B w o := by
  have g := mono_put (u' := u') am c e
  cases o with
  | lst xs => obtain ⟨vs, rfl, r⟩ := h; exact ⟨vs, rfl, Reps.mono g.1 g.2 _ _ r⟩
  | dic kvs => obtain ⟨vs, d, r⟩ := h; exact ⟨vs, d, Reps.mono g.1 g.2 _ _ r⟩
  | dir kvs => obtain ⟨vs, d, r⟩ := h; exact ⟨vs, d, r.put am c e⟩
  | dead => exact h.elim
theorem put_rel (r : RelS K m B S H) (hl : m[l]? = some (some a)) (c : Chg u) (e : H a = some u) (h : RepU K H m B u' o') : RelS K m B (S.set l o') (upd H a u') where
  len := by simp [r.len]
  inj := r.inj
  ob := fun i b ei => by
    have am : Pr m B a := .inl (List.mem_of_getElem? hl)
    by_cases hi : l = i
    · subst hi
      rw [hl] at ei
      cases ei
      refine ⟨o', ?_, repU_o (h.put am c e) upd_same⟩
      rw [List.getElem?_set_self]
      rw [← r.len]
      exact (List.getElem?_eq_some_iff.mp hl).1
    · obtain ⟨o, q, q2⟩ := r.ob i b ei
      refine ⟨o, by rw [List.getElem?_set_ne hi, q], ?_⟩
      obtain ⟨w, ew, rw_⟩ := repO_u q2
      have n : b ≠ a := fun z => hi (r.inj l i a hl (z ▸ ei))
      exact repU_o (rw_.put am c e) ((upd_ne n).trans ew)
  dead := fun i ei => by
    have hi : l ≠ i := fun z => by subst z; rw [hl] at ei; cases ei
    rw [List.getElem?_set_ne hi, r.dead i ei]
  bd := fun b z => by
    have n : b ≠ a := fun w => (r.bd b z).2 (w ▸ List.mem_of_getElem? hl)
    rw [upd_ne n]
    exact r.bd b z
end
/-- a method's rule changes an object as g says -/
def OpM (K : Kx) (r : V → List V → Hp → VK → Prop) (T : String) (g : Mu) : Prop :=
  ∀ (H : Hp) (m : Mp) (B : Addr → Prop) (a : Addr) (o o' : O) (u : HO) (ys : List P) (ws : List V) (y : P) (Q : VK), H a = some u → RepU K H m B u o → (∃ x, oval o = some x ∧ isTy T x = true) → Reps K H (Pr m B) ys ws → g o ys = some (o', y) →
    (∀ u' v, RepU K H m B u' o' → Rep K H (Pr m B) y v → Q v (upd H a u')) → r (.ref a) ws H Q
/-- a store by an index -/
def OpSet (K : Kx) (t : V → V → V → Hp → (Hp → Prop) → Prop) (g : Mu) : Prop :=
  ∀ (H : Hp) (m : Mp) (B : Addr → Prop) (a : Addr) (o o' : O) (u : HO) (k y z : P) (kv yv : V) (Q : Hp → Prop), H a = some u → RepU K H m B u o → Rep K H (Pr m B) k kv → Rep K H (Pr m B) y yv → g o [k, y] = some (o', z) →
    (∀ u', RepU K H m B u' o' → Q (upd H a u')) → t (.ref a) kv yv H Q
section
variable {X : Cx} {cl : Cls_} {W : WX} {rn : Rn} {w : Nat} {pos : Pos}
theorem ref_at {K : Kx} {H : Hp} {m : Mp} {B : Addr → Prop} {S : Store} {l : Nat} {v : V} (rs : RelS K m B S H) (rd : RepD K H m B (.ref l) v) {o : O} (e : S[l]? = some o) (h : o ≠ .dead) : ∃ a u, m[l]? = some (some a) ∧ v = .ref a ∧ H a = some u ∧ RepU K H m B u o := by
  dsimp only [RepD] at rd
  cases z : m[l]? with
  | none => rw [z] at rd; exact rd.elim
  | some y =>
    rw [z] at rd
    cases y with
    | none =>
      have := rs.dead l z
      rw [e] at this
      cases this
      exact absurd rfl h
    | some a =>
      subst rd
      obtain ⟨o2, q1, q2⟩ := rs.ob l a z
      rw [e] at q1
      cases q1
      obtain ⟨u, eu, ru⟩ := repO_u q2
      exact ⟨a, u, rfl, rfl, eu, ru⟩
def muK (rn : Rn) (T : P → Bool) (g : Mu) (is : IEs) (e : Env) (d : D) (S1 : Store) : R D :=
  match val S1 d with
    | some x => if T x then (evEs rn is e S1).bind fun ds S2 =>
        (match pures ds with
        | some xs => mutD g d xs S2
        | none => .no) else .no
    | none => .no
theorem ev_mut (T : P → Bool) (g : Mu) (i : IE) (is : IEs) (e : Env) (S : Store) : evE rn (.mut T g i is) e S = (evE rn i e S).bind fun d S1 => muK rn T g is e d S1 := by
  simp only [evE]
  rfl
theorem mu_open {K : Kx} {m : Mp} {B : Addr → Prop} {σ : L2.St} {H : Hp} {S1 : Store} {d : D} {T : P → Bool} {g : Mu} {is : IEs} {e : Env} {Q : VK} (h : EndG K cl W (rD K) m B σ H (muK rn T g is e d S1) Q) :
    ∃ x, val S1 d = some x ∧ T x = true ∧ EndG K cl W (rD K) m B σ H ((evEs rn is e S1).bind fun ds S2 => match pures ds with | some xs => mutD g d xs S2 | none => .no) Q := by
  unfold muK at h
  cases q : val S1 d with
  | none => rw [q] at h; exact h.elim
  | some x =>
    rw [q] at h
    dsimp only at h
    by_cases t : T x = true
    · rw [if_pos t] at h
      exact ⟨x, rfl, t, h⟩
    · rw [if_neg t] at h
      exact h.elim
theorem mut_fin {K : Kx} {m : Mp} {B : Addr → Prop} {σ : L2.St} {H : Hp} {S : Store} {d : D} {v : V} {ds : List D} {vs : List V} {g : Mu} {r : V → List V → Hp → VK → Prop} {T : String} {Q : VK} (hm : OpM K r T g) (hT : ∀ o ys o' y, g o ys = some (o', y) → ∃ x, oval o = some x ∧ isTy T x = true) (rs : RelS K m B S H) (rd : RepD K H m B d v) (rds : RepDs K H m B ds vs)
    (h : EndG K cl W (rD K) m B σ H (match pures ds with | some xs => mutD g d xs S | none => .no) Q) : r v vs H Q := by
  cases q : pures ds with
  | none => rw [q] at h; exact h.elim
  | some xs =>
    rw [q] at h
    dsimp only at h
    cases d with
    | p x => exact h.elim
    | exc c fs => exact h.elim
    | ref l =>
      simp only [mutD] at h
      cases q2 : S[l]? with
      | none => rw [q2] at h; exact h.elim
      | some o =>
        rw [q2] at h
        dsimp only at h
        cases q3 : g o xs with
        | none => rw [q3] at h; exact h.elim
        | some oy =>
          rw [q3] at h
          obtain ⟨o', y⟩ := oy
          have ov := hT o xs o' y q3
          have nd : o ≠ .dead := fun e => by
            obtain ⟨x, e1, _⟩ := ov
            rw [e] at e1
            cases e1
          obtain ⟨a, u, ea, rfl, eu, ru⟩ := ref_at rs rd q2 nd
          refine hm H m B a o o' u xs vs y Q eu ru ov (rds.pure q) q3 fun u' v' ru' rv => ?_
          have am : some a ∈ m := List.mem_of_getElem? ea
          have x := put_ext (u' := u') am ru.chg eu
          exact h m _ v' x (put_rel rs ea ru.chg eu ru') (x.rep rv)
theorem de_mut {T id : String} {name : Str} {o a : Expr} {es : List Expr} {i : IE} {is : IEs} {apos : Pos} {r : V → List V → Hp → VK → Prop} {g : Mu} (hTd : T ≠ "dict") (pa : PlainAttrs T) (slot : Slot T name id) (hty : typeOf (.builtin id) = pure (.type "method_descriptor")) (hm : MtR X id r) (hv : OpM (kx X cl) r T g) (hT : ∀ o ys o' y, g o ys = some (o', y) → ∃ x, oval o = some x ∧ isTy T x = true)
    (ho : DE X cl W o (evE rn i)) (ha : DA X cl W (a :: es) (evEs rn is)) (hbase : attributeBase o name X.env (eval o X.env) = eval o X.env)
    (hfew : ((backTo pos (starEach (a :: es) X.env)).all (fun x => !x.1) && (backToKw pos (keywordEach [] X.env)).all (fun x => x.1.isSome)
      && decide ((a :: es).length + ([] : List Keyword).length + (if ([] : List Keyword).isEmpty then 0 else 1) < 30)) = true)
    (hline : (apos.endLine == pos.line) = true) (hs : starEach (a :: es) X.env = (false, eval a X.env) :: starEach es X.env) (hplain : (backTo pos (starEach es X.env)).any (·.1) = false) :
    DE X cl W (.Call (.Attribute o name apos) (a :: es) [] pos) (evE rn (.mut (isTy T) g i is)) := PE.imp (pe_bm pa slot hty hm ho ha hbase hfew hline hs hplain) fun σ H Q h => by
  obtain ⟨m, B, e, S, hS, hE, h⟩ := h
  rw [ev_mut] at h
  refine tG_bind hS hE h fun d S1 m1 H1 v x1 hS1 hE1 r1 h1 eq1 => ?_
  obtain ⟨x, q, t, h1⟩ := mu_open h1
  refine ⟨tyV_top (r1.top hS1 q) t (fun ks xs e => by subst e; exact absurd (of_decide_eq_true t) hTd), ?_⟩
  refine tG_bind hS1 hE1 h1 fun ds S2 m2 H2 vs x2 hS2 hE2 r2 h2 eq2 => ?_
  exact mut_fin hv hT hS2 (x2.repD r1) r2 h2
theorem de_mut0 {T id : String} {name : Str} {o : Expr} {i : IE} {apos : Pos} {r : V → List V → Hp → VK → Prop} {g : Mu} (hTd : T ≠ "dict") (pa : PlainAttrs T) (slot : Slot T name id) (hty : typeOf (.builtin id) = pure (.type "method_descriptor")) (hm : MtR X id r) (hv : OpM (kx X cl) r T g) (hT : ∀ o ys o' y, g o ys = some (o', y) → ∃ x, oval o = some x ∧ isTy T x = true)
    (ho : DE X cl W o (evE rn i)) (hbase : attributeBase o name X.env (eval o X.env) = eval o X.env) (hline : (apos.endLine == pos.line) = true) :
    DE X cl W (.Call (.Attribute o name apos) [] [] pos) (evE rn (.mut (isTy T) g i .nil)) := PE.imp (pe_bm0 pa slot hty hm ho hbase hline) fun σ H Q h => by
  obtain ⟨m, B, e, S, hS, hE, h⟩ := h
  rw [ev_mut] at h
  refine tG_bind hS hE h fun d S1 m1 H1 v x1 hS1 hE1 r1 h1 eq1 => ?_
  obtain ⟨x, q, t, h1⟩ := mu_open h1
  refine ⟨tyV_top (r1.top hS1 q) t (fun ks xs e => by subst e; exact absurd (of_decide_eq_true t) hTd), ?_⟩
  simp only [evEs, R.bind_ok] at h1
  exact mut_fin (ds := []) (vs := []) hv hT hS1 r1 rfl h1
/-- a[k] = v -/
theorem ds_sub {a k v : Expr} {i j n : IE} {spos : Pos} {t : V → V → V → Hp → (Hp → Prop) → Prop} {g : Mu} (hset : PSet X t) (hv : OpSet (kx X cl) t g) (hd : ∀ o ys, g o ys = none ∨ o ≠ .dead) (hval : DE X cl W v (evE rn n)) (ha : DE X cl W a (evE rn i)) (hk : DE X cl W k (evE rn j))
    (hsub : ∀ v, assign (.Subscript a k spos) X.env v = (do
      let ov ← holding [v] (eval a X.env)
      let iv ← holding [v, ov] (eval k X.env)
      standAt spos
      holding [v, ov, iv] (setItem ov iv v)
      release [v, ov, iv] []))
    (hs : swapsWithSole [.Subscript a k spos] v pos.line X.env = pure false) (hw : swappedStores [.Subscript a k spos] v X.env = pure none) (h1 : (assignEach [.Subscript a k spos] X.env).map (·.2) = [assign (.Subscript a k spos) X.env]) :
    DS X cl W (.Assign [.Subscript a k spos] v pos) (evS rn w (.sub g i j n)) := PS.imp (ps_asg hval (pg_sub ha hk hset hsub) hs hw h1) fun D σ H h => by
  obtain ⟨m, B, e, S, hS, hE, h⟩ := h
  simp only [evS] at h
  refine tS_bind hS hE h fun d1 S1 m1 H1 v1 x1 hS1 hE1 r1 h1 eq1 => ?_
  show gSub _ _ _ v1 σ H1 D.nx
  refine tS_bind hS1 hE1 h1 fun d2 S2 m2 H2 v2 x2 hS2 hE2 r2 h2 eq2 => ?_
  refine tS_bind hS2 hE2 h2 fun d3 S3 m3 H3 v3 x3 hS3 hE3 r3 h3 eq3 => ?_
  cases d1 with
  | ref l => exact h3.elim
  | exc c fs => exact h3.elim
  | p y =>
    cases d3 with
    | ref l => exact h3.elim
    | exc c fs => exact h3.elim
    | p x =>
      dsimp only at h3
      cases d2 with
      | p z => exact h3.elim
      | exc c fs => exact h3.elim
      | ref l =>
        simp only [mutD] at h3
        cases q2 : S3[l]? with
        | none => rw [q2] at h3; exact h3.elim
        | some o =>
          rw [q2] at h3
          dsimp only at h3
          cases q3 : g o [x, y] with
          | none => rw [q3] at h3; exact h3.elim
          | some oy =>
            rw [q3] at h3
            obtain ⟨o', z⟩ := oy
            have nd : o ≠ .dead := (hd o [x, y]).resolve_left (by rw [q3]; exact fun z => nomatch z)
            obtain ⟨b, u, ea, rfl, eu, ru⟩ := ref_at hS3 (x3.repD r2) q2 nd
            refine hv H3 m3 B b o o' u x y z v3 v1 _ eu ru r3 ((x2.trans x3).repD r1) q3 fun u' ru' => ?_
            have am : some b ∈ m3 := List.mem_of_getElem? ea
            have xx := put_ext (u' := u') am ru.chg eu
            exact h3 m3 _ σ xx (put_rel hS3 ea ru.chg eu ru') (xx.relE hE3)
end
/-! ### lists -/
section
variable {K : Kx}
theorem om_append : OpM K rAppend "list" appendM := by
  intro H m B a o o' u ys ws y Q eu ru hT rys hg hq
  unfold appendM at hg
  split at hg
  · rename_i xs z
    split at hg
    · rename_i hc
      cases hg
      obtain ⟨vs, rfl, rp⟩ := ru
      obtain ⟨v, s, rfl, rv, rs⟩ := Reps.cons_iff.mp rys
      rw [Reps.nil_iff] at rs
      subst rs
      refine ⟨a, vs, v, rfl, rfl, eu, by rw [← rp.len, ← line_eq]; exact hc, ?_⟩
      exact hq _ _ ⟨_, rfl, rp.append (Reps.one rv)⟩ rfl
    · cases hg
  · cases hg
theorem appendM_ty : ∀ o ys o' y, appendM o ys = some (o', y) → ∃ x, oval o = some x ∧ isTy "list" x = true := by
  intro o ys o' y h
  unfold appendM at h
  split at h
  · exact ⟨_, rfl, by simp [isTy]⟩
  · cases h
theorem oset_list : OpSet K rSetL setM := by
  intro H m B a o o' u k y z kv yv Q eu ru rk ry hg hq
  unfold setM at hg
  split at hg
  · rename_i xs i y' e
    cases e
    split at hg
    · rename_i j hj
      cases hg
      obtain ⟨vs, rfl, rp⟩ := ru
      refine ⟨a, vs, i, j, rfl, rk, eu, by rw [← rp.len]; exact hj, ?_⟩
      exact hq _ ⟨_, rfl, rp.set ry j⟩
    · cases hg
  · cases hg
theorem setM_nd : ∀ o ys, setM o ys = none ∨ o ≠ .dead := by
  intro o ys
  cases o with
  | dead => exact .inl rfl
  | _ => exact .inr fun z => nomatch z
theorem mt_appendR {X : Cx} : MtR X "list.append" rAppend := mt_append
end
end DL

set_option maxRecDepth 100000
set_option maxHeartbeats 1000000
/-! DX1: x[::-1], sorted, what is never come to -/
namespace DL
open PySem PySem.Spec PyProof.Rows L2
/-! ### never -/
theorem ds_never {X : Cx} {cl : Cls_} {W : WX} {rn : Rn} {w : Nat} {st : Stmt} : DS X cl W st (evS rn w irNo) := PS.imp ps_never fun D σ H h => by
  obtain ⟨m, B, e, S, hS, hE, h⟩ := h
  simp only [irNo, evS, evE, evEs, R.bind_ok, vals, R.go_no] at h
  exact h.elim
/-! ### x[::-1] -/
def revS (z : Str) : Str := ⟨z.cps.toList.reverse.toArray⟩
def rRev (K : PySem.W.Frag) : V → Hp → VK → Prop := fun x H Q => (∃ z, x = .str z ∧ z.length ≤ sizeLine ∧ Q (.str (revS z)) H) ∨ ∃ a xs, x = .ref a ∧ SqL K H a xs ∧ ∀ p, H p = none → Q (.ref p) (upd H p (.lst xs.reverse))
theorem rev_pick (z : Str) : ((Builtin.Str.strSliceIndices none none (-1) z.length).filterMap (z.cps[·]?)).toArray = z.cps.toList.reverse.toArray := by
  congr 1
  rw [picked_rev, filterMap_get]
  · rw [List.map_map]
    apply List.ext_getElem
    · simp [Str.length]
    · intro i h1 h2
      simp [Str.length] at h1 ⊢
      rw [Array.getElem?_eq_getElem (by omega)]
      simp
  · intro i hi
    obtain ⟨k, hk, rfl⟩ := List.mem_map.mp hi
    have hk' : k < z.length := List.mem_range.mp hk
    show z.length - 1 - k < z.length
    omega
theorem pe_revA {X : Cx} {e : Expr} {te : TE} {k : Nat} {p1 p2 p3 pos : Pos} (he : PE X e te) : PE X (.Subscript e (.Slice none none (some (.UnaryOp .USub (.Constant (.int 1) k p1) p2)) p3) pos) (fun σ H Q => te σ H fun x H1 => rRev X.K x H1 Q) := by
  refine ⟨fun pins s σ H Q I h => ?_⟩
  refine Subscript_ (thn (he.run pins s σ H _ I h) fun v s1 ⟨x, H1, I1, r1, q1⟩ => ?_)
  have hst : PO X (some (.UnaryOp .USub (.Constant (.int 1) k p1) p2)) (tPart (tUn (rU fun i => .int (-i)) (tC (.int 1)))) := po_some (pe_un un_neg pe_int)
  refine wpAny_Slice (thn (po_none.run pins s1 σ H1 (fun o H2 => o = none ∧ H2 = H1) I1 ⟨rfl, rfl⟩) fun vl s2 ⟨l, H2, I2, pl, el, e2⟩ => ?_)
  subst el e2
  refine thn (po_none.run pins s2 σ H2 (fun o H3 => o = none ∧ H3 = H2) I2 ⟨rfl, rfl⟩) fun vu s3 ⟨u, H3, I3, pu, eu, e3⟩ => ?_
  subst eu e3
  refine thn (hst.run pins s3 σ H3 (fun o H4 => o = some (-1) ∧ H4 = H3) I3 ⟨1, rfl, -1, rfl, rfl, rfl⟩) fun vs s4 ⟨o, H4, I4, ps, eo, e4⟩ => ?_
  subst eo e4
  have I5 : Inv X pins σ H4 { s4 with heap := s4.heap.push { cls := .type "slice", data := .fields #[vl, vu, vs] } } := I4.kept (t' := s4.toks) fun b ob q => Heap.get?_push_of_some _ q
  rcases q1 with ⟨z, ex, hz, q⟩ | ⟨a, xs, ex, hx, q⟩
  · subst ex
    obtain ⟨t, rfl⟩ := r1
    obtain ⟨l, rfl, el⟩ := IsPart.raw pl
    obtain ⟨u, rfl, eu⟩ := IsPart.raw pu
    obtain ⟨st, rfl, es⟩ := IsPart.raw ps
    cases l with
    | some _ => cases el
    | none =>
    cases u with
    | some _ => cases eu
    | none =>
    cases st with
    | none => cases es
    | some st =>
    obtain ⟨si, stk⟩ := st
    cases es
    show wpAny (model X.prog X.w) X.A (subscriptTail e (.Slice none none (some (.UnaryOp .USub (.Constant (.int 1) k p1) p2)) p3) (.str z t) (.ref s4.heap.objs.size)) (EP X pins σ Q) X.xe { s4 with heap := s4.heap.push { cls := .type "slice", data := .fields #[partValue none, partValue none, partValue (some (-1, stk))] } }
    refine tail_any (ops := [.str z t, .ref s4.heap.objs.size]) (typeIs_str _ _ _) F.slot_str_getitem.lookup ?_ (by with_unfolding_all rfl)
    refine wpAny_getItem_str_slice (l := none) (u := none) (st := some (-1, stk)) (Heap.IsSliceOf.new _ _ _ _) rfl ?_
    have e0 : (sliceMade z t none none (some (-1, stk))) = Made.str (revS z) := by
      unfold sliceMade slicePicked revS
      rw [← rev_pick]
      rfl
    rw [e0]
    refine ⟨?_, .str (revS z), H4, I5.tok _, ⟨_, rfl⟩, q⟩
    have : (revS z).length = z.length := by simp [revS, Str.length]
    omega
  · subst ex
    cases r1
    obtain ⟨its, r, ht, hz⟩ := I5.list hx
    have hlen := r.length
    show wpAny (model X.prog X.w) X.A (subscriptTail e (.Slice none none (some (.UnaryOp .USub (.Constant (.int 1) k p1) p2)) p3) (.ref a) (.ref s4.heap.objs.size)) (EP X pins σ Q) X.xe { s4 with heap := s4.heap.push { cls := .type "slice", data := .fields #[vl, vu, vs] } }
    refine tail_any (ops := [.ref a, .ref s4.heap.objs.size]) ht.isList.typeIs (PySem.slot_list_getitem.lookup) ?_ (by with_unfolding_all rfl)
    refine wpAny_getItem_list_slice ht.isList (Heap.IsSliceOf.new _ vl vu vs) pl pu ps (by decide) ?_ (by rw [List.size_toArray]; omega)
    rw [PySem.W.krv_pick]
    refine ⟨.ref _, _, I5.laid (t' := s4.toks) (o := .lst xs.reverse) (fun b ob q => Heap.get?_push_of_some _ q) (Nat.le_refl _) ?_, rfl, q _ (I5.hok.fresh (Nat.le_refl _))⟩
    exact ⟨by rw [List.length_reverse]; exact hz, _, 0, r.reverse, Heap.get?_push_size _ rfl⟩
theorem Reps.rev {K : PySem.W.Frag} {H : Hp} {pr : Addr → Prop} : ∀ {xs : List P} {vs : List V}, Reps K H pr xs vs → Reps K H pr xs.reverse vs.reverse
  | [], vs, h => by
    rw [Reps.nil_iff] at h
    subst h
    exact Reps.nil_iff.mpr rfl
  | x :: xs, vs, h => by
    obtain ⟨v, s, rfl, r1, r2⟩ := Reps.cons_iff.mp h
    rw [List.reverse_cons, List.reverse_cons]
    exact (Reps.rev r2).append (Reps.cons_iff.mpr ⟨v, [], rfl, r1, Reps.nil_iff.mpr rfl⟩)
theorem ov_rev {K : PySem.W.Frag} : OpV K (rOf1 (rRev K)) revP := .one (fun H pr x v z Q hp r1 hf hq => by
  unfold revP at hf
  split at hf
  · rename_i e
    cases e
    cases hf
    obtain ⟨rfl, o⟩ := r1.str
    refine .inl ⟨_, rfl, by rw [len_strV]; exact o.1, ?_⟩
    refine hq H _ (Same.refl _) ⟨by simp [revS, strV], ?_⟩
    exact ⟨by rw [List.length_reverse]; exact o.1, fun c hc => o.2 c (List.mem_reverse.mp hc)⟩
  · rename_i xs e
    cases e
    cases hf
    obtain ⟨a, vs, rfl, s, rp⟩ := r1.lst
    refine .inr ⟨a, vs, rfl, .of s, fun p np => ?_⟩
    exact hq _ _ (Same.new np) ⟨p, vs.reverse, rfl, fun z => hp p z np, upd_same, rp.rev.same (Same.new np)⟩
  · cases hf) fun xs z hf => one1 hf rfl fun _ _ _ => by simp [revP]
section
variable {X : Cx} {cl : Cls_} {W : WX} {rn : Rn} {pos : Pos}
theorem de_rev {a : Expr} {i : IE} {k : Nat} {p1 p2 p3 : Pos} (ha : DE X cl W a (evE rn i)) : DE X cl W (.Subscript a (.Slice none none (some (.UnaryOp .USub (.Constant (.int 1) k p1) p2)) p3) pos) (evE rn (.op revP (.cons i .nil))) := PE.imp (pe_revA ha) fun σ H Q h => by
  obtain ⟨m, B, e, S, hS, hE, h⟩ := h
  rw [ev_op1] at h
  refine tG_bind hS hE h fun d S1 m1 H1 v x1 hS1 hE1 r1 h1 eq1 => ?_
  exact op_fin (ds := [d]) (vs := [v]) ov_rev hS1 ⟨v, [], rfl, r1, rfl⟩ h1 v rfl
theorem of_revL {K : PySem.W.Frag} : OpF K (rOf1 (rRev K)) revL := by
  intro H pr xs vs y Q hp hr hf hq v e
  unfold revL at hf
  split at hf
  · cases hf
    obtain ⟨u, rfl, r1⟩ := repTs1 hr
    cases e
    obtain ⟨a, ws, rfl, s, rp⟩ := r1.lst
    exact .inr ⟨a, ws, rfl, .of s, fun p np => hq.lst rp.rev np⟩
  · cases hf
theorem revL_lst : ∀ xs y, revL xs = some y → (∃ xs, y = .lst xs) ∨ (∃ ks xs, y = .dic ks xs) := by
  intro xs y h
  unfold revL at h
  split at h
  · cases h
    exact .inl ⟨_, rfl⟩
  · cases h
theorem fe_rev {a : Expr} {i : IE} {k : Nat} {p1 p2 p3 : Pos} (ha : DE X cl W a (evE rn i)) : FE X cl W (.Subscript a (.Slice none none (some (.UnaryOp .USub (.Constant (.int 1) k p1) p2)) p3) pos) (evE rn (.op revL (.cons i .nil))) := PE.imp (pe_revA ha) fun σ H Q h => by
  obtain ⟨m, B, e, S, hS, hE, h⟩ := of_tF h
  rw [ev_op1] at h
  refine tG_bindF hS hE h fun d S1 m1 H1 v x1 hS1 hE1 r1 h1 eq1 => ?_
  exact opF_fin (ds := [d]) (vs := [v]) of_revL revL_lst hS1 ⟨v, [], rfl, r1, rfl⟩ h1 v rfl
/-- {} -/
theorem fe_dnew : FE X cl W (.Dict [] [] pos) (evE rn (.pk dnewP .nil)) := PE.imp pe_dnewK fun σ H Q h => by
  obtain ⟨m, B, e, S, hS, hE, h⟩ := of_tF h
  simp only [evE, evEs, R.bind_ok, pures, dnewP] at h
  intro p np
  exact h m _ p [] (.dK []) (.same (Same.new np)) np (hS.ban np (Same.new np) (by rw [upd_same]; exact fun z => nomatch z)) upd_same ⟨rfl, .inl ⟨[], rfl, rfl⟩⟩ (Reps.nil_iff.mpr rfl)
theorem de_globS {x s : Str} {t : Tok} {z : List Nat} (hg : Gl X x) (hm : X.mg x = some (.str s t)) (hs : s = strV z) (ho : okS z) (hd : (x == ("__debug__" : Str)) = false) : DE X cl W (.Name x pos) (evE rn (.c (.str z))) :=
  de_glob (v := .str (strV z)) hg hm ⟨t, by rw [hs]⟩ (fun _ _ => ⟨rfl, ho⟩) hd
theorem de_globI {x : Str} {t : Tok} {i : Int} (hg : Gl X x) (hm : X.mg x = some (.int i t)) (hd : (x == ("__debug__" : Str)) = false) : DE X cl W (.Name x pos) (evE rn (.c (.int i))) :=
  de_glob (v := .int i) hg hm ⟨t, rfl⟩ (fun _ _ => rfl) hd
end
end DL

set_option maxRecDepth 100000
set_option maxHeartbeats 1000000
/-! DX2: sorted -/
namespace DL
open PySem PySem.Spec PyProof.Rows L2
mutual
theorem alk_py : ∀ x y : P, P.alk x y = true → PySem.W.alike (toPy x) (toPy y) = true
  | .non, y, h => by cases y <;> simp [P.alk] at h <;> simp [toPy, PySem.W.alike]
  | .bl _, y, h => by cases y <;> simp [P.alk] at h <;> simp [toPy, PySem.W.alike]
  | .int _, y, h => by cases y <;> simp [P.alk] at h <;> simp [toPy, PySem.W.alike]
  | .str _, y, h => by cases y <;> simp [P.alk] at h <;> simp [toPy, PySem.W.alike]
  | .tup xs, y, h => by
    cases y <;> simp only [P.alk, Bool.false_eq_true] at h
    simp only [toPy, PySem.W.alike]
    exact alks_py _ _ h
  | .lst xs, y, h => by
    cases y <;> simp only [P.alk, Bool.false_eq_true] at h
    simp only [toPy, PySem.W.alike]
    exact alks_py _ _ h
  | .dic _ _, y, h => by cases y <;> simp [P.alk] at h
  | .scr _, y, h => by cases y <;> simp [P.alk] at h
theorem alks_py : ∀ xs ys : List P, P.alks xs ys = true → PySem.W.alikeAll (toPys xs) (toPys ys) = true
  | [], ys, h => by cases ys <;> simp [toPys, PySem.W.alikeAll]
  | x :: xs, [], h => by simp [toPys, PySem.W.alikeAll]
  | x :: xs, y :: ys, h => by
    simp only [P.alks, Bool.and_eq_true] at h
    simp only [toPys, PySem.W.alikeAll, alk_py x y h.1, alks_py xs ys h.2, Bool.and_self]
end
mutual
theorem lt_py : ∀ (n : Nat) (x y : P), P.alk x y = true → x.shp n = true → y.shp n = true → PySem.W.dataLt (toPy x) (toPy y) = P.lt x y
  | n, .non, y, h, s1, s2 => by
    cases y <;> simp [P.alk] at h
    rfl
  | n, .bl a, y, h, s1, s2 => by
    cases y <;> simp [P.alk] at h
    rename_i b
    simp only [toPy, PySem.W.dataLt_bool, P.lt]
    cases a <;> cases b <;> rfl
  | n, .int _, y, h, s1, s2 => by
    cases y <;> simp [P.alk] at h
    simp only [toPy, PySem.W.dataLt_int, P.lt]
  | n, .str _, y, h, s1, s2 => by
    cases y <;> simp [P.alk] at h
    simp only [toPy, PySem.W.dataLt_str, P.lt, strV]
  | 0, .tup xs, y, h, s1, s2 => by simp [P.shp] at s1
  | 0, .lst xs, y, h, s1, s2 => by simp [P.shp] at s1
  | n + 1, .tup xs, y, h, s1, s2 => by
    cases y <;> simp only [P.alk, Bool.false_eq_true] at h
    simp only [toPy, PySem.W.dataLt_tuple, P.lt]
    exact lts_py n _ _ h (by simpa [P.shp] using s1) (by simpa [P.shp] using s2)
  | n + 1, .lst xs, y, h, s1, s2 => by
    cases y <;> simp only [P.alk, Bool.false_eq_true] at h
    simp only [toPy, PySem.W.dataLt_list, P.lt]
    exact lts_py n _ _ h (by simpa [P.shp] using s1) (by simpa [P.shp] using s2)
  | n, .dic _ _, y, h, s1, s2 => by cases y <;> simp [P.alk] at h
  | n, .scr _, y, h, s1, s2 => by cases y <;> simp [P.alk] at h
theorem lts_py : ∀ (n : Nat) (xs ys : List P), P.alks xs ys = true → P.shps n xs = true → P.shps n ys = true → PyProof.Rows.lexLt itemOrd (PySem.W.keyToksAll (toPys xs)) (PySem.W.keyToksAll (toPys ys)) = P.lts xs ys
  | n, [], [], h, s1, s2 => by
    simp only [P.lts]
    exact lex_irrefl _
  | n, [], y :: ys, h, s1, s2 => by
    simp only [toPys, P.lts]
    rw [PySem.W.toks_all_cons]
    rfl
  | n, x :: xs, [], h, s1, s2 => by
    simp only [toPys, P.lts]
    rw [PySem.W.toks_all_cons]
    rfl
  | n, x :: xs, y :: ys, h, s1, s2 => by
    simp only [P.alks, Bool.and_eq_true] at h
    simp only [P.shps, Bool.and_eq_true] at s1 s2
    simp only [toPys, P.lts]
    rw [PySem.W.dataLt_cons (alk_py x y h.1), eqv_py n x y s1.1 s2.1, lts_py n xs ys h.2 s1.2 s2.2, lt_py n x y h.1 s1.1 s2.1]
end
/-- an order of pairs by their data -/
def leV (a b : V × P) : Bool := !P.lt b.2 a.2
def rSortedD (K : PySem.W.Frag) : List V → Hp → VK → Prop := fun vs H Q => ∃ (a : Addr) (xs : List V) (ds : List P), vs = [V.ref a] ∧ SqL K H a xs ∧ DpAll K H xs (toPys ds) ∧ xs.length = ds.length ∧ canSort ds = true ∧
  ∀ p, H p = none → Q (.ref p) (upd H p (.lst (((xs.zip ds).mergeSort leV).map (·.1))))
theorem toPys_map : ∀ ds : List P, toPys ds = ds.map toPy
  | [] => rfl
  | d :: r => by rw [toPys, toPys_map r]; rfl
theorem each_zip : ∀ {xs : List V} {its : List Value} {ds : List P}, Vals xs its → xs.length = ds.length → PySem.W.EachIs (fun v (b : V × P) => RelV b.1 v) its (xs.zip ds)
  | _, _, [], .nil, _ => .nil
  | _, _, [], .cons _ _, h => by simp at h
  | _, _, d :: ds, .nil, h => by simp at h
  | _, _, d :: ds, .cons r rs, h => .cons r (each_zip rs (by simpa using h))
theorem vals_each : ∀ {its : List Value} {bs : List (V × P)}, PySem.W.EachIs (fun v (b : V × P) => RelV b.1 v) its bs → Vals (bs.map (·.1)) its
  | _, _, .nil => .nil
  | _, _, .cons r rs => .cons r (vals_each rs)
theorem each_reads {X : Cx} {pins : List (Addr × Obj)} {σ : L2.St} {H : Hp} {s : Shared} (I : L2.Inv X pins σ H s) : ∀ {xs : List V} {its : List Value} {ds : List P}, Vals xs its → DpAll X.K H xs (toPys ds) → xs.length = ds.length → PySem.W.EachIs (fun v (b : V × P) => ∃ as, Reads s.heap v (toPy b.2) as) its (xs.zip ds)
  | _, _, [], .nil, _, _ => .nil
  | _, _, [], .cons _ _, _, h => by simp at h
  | _, _, d :: ds, .nil, _, h => by simp at h
  | _, _, d :: ds, .cons r rs, D, h => by
    simp only [toPys] at D
    cases D with
    | cons d1 d2 => exact .cons (Dp.reads I _ _ _ d1 r) (each_reads I rs d2 (by simpa using h))
theorem zip_snd {xs : List V} {ds : List P} (h : xs.length = ds.length) : (xs.zip ds).map (·.2) = ds := by
  rw [List.map_snd_zip]
  omega
theorem canSort_mem {ds : List P} (h : canSort ds = true) : (∀ x ∈ ds, ∀ y ∈ ds, P.alk x y = true) ∧ ((∀ x ∈ ds, tupN x = true) ∨ ∀ x ∈ ds, notTN x = true) ∧ P.shps 60 ds = true ∧ ds.length ≤ line := by
  simp only [canSort, Bool.and_eq_true, Bool.or_eq_true, List.all_eq_true, decide_eq_true_eq] at h
  exact ⟨h.1.1.1, h.1.1.2, h.1.2, h.2⟩
theorem shps_mem : ∀ {n : Nat} {ds : List P}, P.shps n ds = true → ∀ d ∈ ds, d.shp n = true
  | n, [], h, d, hd => by cases hd
  | n, x :: r, h, d, hd => by
    simp only [P.shps, Bool.and_eq_true] at h
    rcases List.mem_cons.mp hd with rfl | hd
    · exact h.1
    · exact shps_mem h.2 d hd
theorem merge_le {xs : List V} {ds : List P} (hc : canSort ds = true) (hl : xs.length = ds.length) : (xs.zip ds).mergeSort (PySem.W.dataLe false fun b : V × P => toPy b.2) = (xs.zip ds).mergeSort leV := by
  obtain ⟨h1, h2, h3, h4⟩ := canSort_mem hc
  refine PySem.W.sort_congr fun a ha b hb => ?_
  have ma : a.2 ∈ ds := by
    rw [← zip_snd hl]
    exact List.mem_map.mpr ⟨a, ha, rfl⟩
  have mb : b.2 ∈ ds := by
    rw [← zip_snd hl]
    exact List.mem_map.mpr ⟨b, hb, rfl⟩
  rw [PySem.W.dataLe_eq]
  show (!PySem.W.dataLt (toPy b.2) (toPy a.2)) = _
  rw [lt_py 60 b.2 a.2 (h1 _ mb _ ma) (shps_mem h3 _ mb) (shps_mem h3 _ ma)]
  rfl
theorem cr_sortedD {X : Cx} (hu : X.A.units + 64 < cLine) : CallR X (.builtin "sorted") (rSortedD X.K) := by
  intro pins s σ H vs us Q I r h
  obtain ⟨a, xs, ds, rfl, hs, hd, hlen, hc, q⟩ := h
  obtain ⟨its, rv, hl, hz⟩ := I.list hs
  rw [Vals.ref1 r]
  obtain ⟨h1, h2, h3, h4⟩ := canSort_mem hc
  have hds : (xs.zip ds).map (fun b : V × P => toPy b.2) = toPys ds := by
    rw [toPys_map, ← zip_snd hlen, List.map_map]
    rw [zip_snd hlen]
    rfl
  have hzl : (xs.zip ds).length = xs.length := by rw [List.length_zip]; omega
  refine PySem.W.sorted_data (enc := fun b : V × P => toPy b.2) hl.isList (each_zip rv hlen) (each_reads I rv hd hlen) ?_ ?_ (by rw [hzl]; exact hz) ?_ (fun out ho eo => ?_)
  · rw [hds, toPys_map]
    intro x hx y hy
    obtain ⟨x, mx, rfl⟩ := List.mem_map.mp hx
    obtain ⟨y, my, rfl⟩ := List.mem_map.mp hy
    exact alk_py _ _ (h1 x mx y my)
  · rw [hds, toPys_map]
    rcases h2 with h2 | h2
    · left
      intro x hx
      obtain ⟨x, mx, rfl⟩ := List.mem_map.mp hx
      have := h2 x mx
      cases x <;> simp [tupN] at this
      rename_i zs
      cases zs <;> simp [tupN] at this
      exact ⟨_, _, rfl⟩
    · right
      intro x hx
      obtain ⟨x, mx, rfl⟩ := List.mem_map.mp hx
      have := h2 x mx
      cases x <;> simp [notTN] at this <;> simp [toPy]
  · intro b hb
    have mb : b.2 ∈ ds := by
      rw [← zip_snd hlen]
      exact List.mem_map.mpr ⟨b, hb, rfl⟩
    have := depth_py 60 b.2 (shps_mem h3 _ mb)
    show X.A.units + 2 + (toPy b.2).depth < cLine
    omega
  · rw [merge_le hc hlen] at eo
    obtain ⟨ep, he'⟩ := PyProof.Rows.sortedAll_at s.heap its (List.toArray out)
    have hv := vals_each eo
    have hlen2 : (((xs.zip ds).mergeSort leV).map (·.1)).length ≤ sizeLine := by
      rw [List.length_map, List.length_mergeSort, hzl]
      exact hz
    exact ⟨.ref _, upd H (s.heap.objs.size + 1) (.lst (((xs.zip ds).mergeSort leV).map (·.1))), I.laid (t' := s.toks) (fun _ _ => PyProof.Rows.sortedAll_old) (Nat.le_succ _) ⟨hlen2, (List.toArray out).toList, ep, hv, he'⟩, rfl, q _ (I.hok.fresh (Nat.le_succ _))⟩
theorem reps_zip {K : PySem.W.Frag} {H : Hp} {pr : Addr → Prop} : ∀ {ds : List P} {xs : List V}, Reps K H pr ds xs → ∀ b ∈ xs.zip ds, Rep K H pr b.2 b.1
  | [], xs, h, b, hb => by simp at hb
  | d :: ds, xs, h, b, hb => by
    obtain ⟨v, s, rfl, r1, r2⟩ := Reps.cons_iff.mp h
    rw [List.zip_cons_cons] at hb
    rcases List.mem_cons.mp hb with rfl | hb
    · exact r1
    · exact reps_zip r2 b hb
theorem reps_of_all {K : PySem.W.Frag} {H : Hp} {pr : Addr → Prop} : ∀ {bs : List (V × P)}, (∀ b ∈ bs, Rep K H pr b.2 b.1) → Reps K H pr (bs.map (·.2)) (bs.map (·.1))
  | [], h => Reps.nil_iff.mpr rfl
  | b :: bs, h => Reps.cons_iff.mpr ⟨b.1, _, rfl, h b List.mem_cons_self, reps_of_all fun c hc => h c (List.mem_cons_of_mem _ hc)⟩
theorem of_sorted {K : PySem.W.Frag} : OpF K (rSortedD K) sortedP := by
  intro H pr xs vs y Q hp hr hf hq
  unfold sortedP at hf
  split at hf
  · rename_i zs
    split at hf
    · rename_i hc
      cases hf
      obtain ⟨v, rfl, r1⟩ := repTs1 hr
      obtain ⟨a, ws, rfl, s, rp⟩ := r1.lst
      have hlen : ws.length = zs.length := rp.len.symm
      obtain ⟨h1, h2, h3, h4⟩ := canSort_mem hc
      refine ⟨a, ws, zs, rfl, .of s, (dps_of 60 zs ws h3 rp).1, hlen, hc, fun p np => ?_⟩
      have e : sortP zs = ((ws.zip zs).mergeSort leV).map (·.2) := by
        unfold sortP
        rw [PySem.W.sort_maps (f := fun b : V × P => b.2) (r := leV) (s := fun a b => !P.lt b a) (fun a _ b _ => rfl), zip_snd hlen]
      rw [e] at hq
      exact hq.lst (reps_of_all fun b hb => reps_zip rp b (List.mem_mergeSort.mp hb)) np
    · cases hf
  · cases hf
theorem sortedP_lst : ∀ xs y, sortedP xs = some y → (∃ xs, y = .lst xs) ∨ (∃ ks xs, y = .dic ks xs) := by
  intro xs y h
  unfold sortedP at h
  split at h
  · split at h
    · cases h
      exact .inl ⟨_, rfl⟩
    · cases h
  · cases h
end DL

set_option maxRecDepth 100000
set_option maxHeartbeats 1000000
/-! DX3: list(text), in, index -/
namespace DL
open PySem PySem.Spec PyProof.Rows L2
theorem vals_signs : ∀ (its : List Value) (cs : List Nat), its.length = cs.length → (∀ (j : Nat) (v : Value), its[j]? = some v → ∃ c u, cs[j]? = some c ∧ v = .str ⟨#[c]⟩ u) → Vals (cs.map fun c => V.str ⟨#[c]⟩) its
  | [], [], _, _ => .nil
  | [], _ :: _, h, _ => by simp at h
  | _ :: _, [], h, _ => by simp at h
  | v :: its, c :: cs, h, q => by
    obtain ⟨c', u, e, ev⟩ := q 0 v rfl
    cases e
    exact .cons ⟨u, ev⟩ (vals_signs its cs (by simpa using h) fun j w hw => by
      obtain ⟨c', u, e, ev⟩ := q (j + 1) w (by simpa using hw)
      exact ⟨c', u, by simpa using e, ev⟩)
def rListTx : List V → Hp → VK → Prop := fun xs H Q => ∃ z : Str, xs = [.str z] ∧ z.length ≤ sizeLine ∧ ∀ l, H l = none → Q (.ref l) (upd H l (.lst (z.cps.toList.map fun c => V.str ⟨#[c]⟩)))
theorem call_list_txt {X : Cx} (hc : X.calm = true) : CallR X (.type "list") rListTx := by
  intro pins s σ H vs us Q I r h
  obtain ⟨z, rfl, hz, q⟩ := h
  obtain ⟨u, rfl, t, rfl⟩ := vals1 r
  refine call_list_str (I.ok.hd hc) z t (fun h' tk acc' c' kp e ia => ?_) (hn := hz)
  have hv : Vals (z.cps.toList.map fun c => V.str ⟨#[c]⟩) acc'.toList := vals_signs _ _ (by simp [ia.1]) fun j v hj => by
    obtain ⟨c, u, h1, h2⟩ := ia.2 j v (by simpa using hj)
    exact ⟨c, u, by simpa using h1, h2⟩
  exact ⟨.ref s.heap.objs.size, _, I.laid (t' := tk) kp (Nat.le_refl _) (show ObjOk X.prog X.w _ h' _ (.lst (z.cps.toList.map fun c => V.str ⟨#[c]⟩)) from ⟨by rw [List.length_map, Array.length_toList]; exact hz, acc'.toList, c', hv, by simpa using e⟩), rfl, q _ (I.hok.fresh (Nat.le_refl _))⟩
theorem reps_signs {K : PySem.W.Frag} {H : Hp} {pr : Addr → Prop} : ∀ {x : List Nat}, (∀ c ∈ x, okS [c]) → Reps K H pr (x.map fun c => P.str [c]) ((strV x).cps.toList.map fun c => V.str ⟨#[c]⟩)
  | [], _ => Reps.nil_iff.mpr rfl
  | c :: r, h => Reps.cons_iff.mpr ⟨_, _, rfl, ⟨rfl, h c List.mem_cons_self⟩, reps_signs (x := r) fun d hd => h d (List.mem_cons_of_mem _ hd)⟩
theorem okS_one {x : List Nat} (h : okS x) : ∀ c ∈ x, okS [c] := fun c hc => ⟨by rw [List.length_singleton]; exact Nat.le_trans (List.length_pos_of_mem hc) h.1, fun d hd => by
  rw [List.mem_singleton.mp hd]
  exact h.2 c hc⟩
theorem of_listQ {K : PySem.W.Frag} : OpF K (fun vs H Q => rListOf K vs H Q ∨ rListTx vs H Q) listQ := by
  intro H pr xs vs y Q hp hr hf hq
  by_cases h : ∃ x, xs = [.str x]
  · obtain ⟨x, rfl⟩ := h
    cases hf
    obtain ⟨v, rfl, r1⟩ := repTs1 hr
    obtain ⟨rfl, o⟩ := r1.str
    exact .inr ⟨_, rfl, by rw [len_strV]; exact o.1, fun l nl => hq.lst (reps_signs (okS_one o)) nl⟩
  · refine .inl (of_list H pr xs vs y Q hp hr ?_ hq)
    unfold listQ at hf
    split at hf
    · rename_i x
      exact absurd ⟨x, rfl⟩ h
    · exact hf
theorem listQ_lst : ∀ xs y, listQ xs = some y → (∃ xs, y = .lst xs) ∨ (∃ ks xs, y = .dic ks xs) := by
  intro xs y h
  unfold listQ at h
  split at h
  · cases h
    exact .inl ⟨_, rfl⟩
  · exact listP_lst _ y h
theorem call_listQ {X : Cx} (hc : X.calm = true) : CallR X (.type "list") (fun vs H Q => rListOf X.K vs H Q ∨ rListTx vs H Q) := CallR.or call_list_of (call_list_txt hc)
end DL

set_option maxRecDepth 100000
set_option maxHeartbeats 1000000
/-! DX4: dicts read -/
namespace DL
open PySem PySem.Spec PyProof.Rows L2
theorem strV_eq {x y : List Nat} (h : strV x = strV y) : x = y := by
  have := congrArg (fun s : Str => s.cps.toList) h
  simpa [strV] using this
theorem keyP_inj {j k : P} {c : Key} (h1 : keyP j = some c) (h2 : keyP k = some c) : j = k := by
  cases j <;> simp [keyP] at h1 <;> cases k <;> simp [keyP] at h2 <;> subst h1
  · simp at h2; rw [h2]
  · simp at h2
  · simp at h2
  · simp at h2; rw [strV_eq h2]
theorem keysP_paired : ∀ {ks : List P} {kk : List Key}, keysP ks = some kk → Paired (fun j c => keyP j = some c) ks kk
  | [], kk, h => by cases h; exact .nil
  | k :: r, kk, h => by
    unfold keysP at h
    cases e1 : keyP k with
    | none => rw [e1] at h; cases h
    | some c =>
      cases e2 : keysP r with
      | none => rw [e1, e2] at h; cases h
      | some cs =>
        rw [e1, e2] at h
        cases h
        exact .cons e1 (keysP_paired e2)
theorem paired_inj {ι κ : Type} {R : ι → κ → Prop} (inj : ∀ (j k : ι) (c : κ), R j c → R k c → j = k) : ∀ (js ks : List ι) (cs : List κ), Paired R js cs → Paired R ks cs → js = ks
  | [], [], [], _, _ => rfl
  | [], _ :: _, [], _, h => by cases h
  | _ :: _, _, [], h, _ => by cases h
  | [], _, _ :: _, h, _ => by cases h
  | _ :: _, [], _ :: _, _, h => by cases h
  | j :: js, k :: ks, c :: cs, h1, h2 => by
    cases h1 with
    | cons a r =>
      cases h2 with
      | cons b s => rw [inj j k c a b, paired_inj inj js ks cs r s]
theorem keyT_inj {j k : P} {c : List Key} (h1 : keyT j = some c) (h2 : keyT k = some c) : j = k := by
  cases j <;> simp only [keyT] at h1 <;> first | cases h1 | skip
  cases k <;> simp only [keyT] at h2 <;> first | cases h2 | skip
  rename_i xs ys
  have e : xs = ys := paired_inj (R := fun j c => keyP j = some c) (fun j k c a b => keyP_inj a b) xs ys c (keysP_paired h1) (keysP_paired h2)
  rw [e]
theorem keysT_paired : ∀ {ks : List P} {kk : List (List Key)}, keysT ks = some kk → Paired (fun j c => keyT j = some c) ks kk
  | [], kk, h => by cases h; exact .nil
  | k :: r, kk, h => by
    unfold keysT at h
    cases e1 : keyT k with
    | none => rw [e1] at h; cases h
    | some c =>
      cases e2 : keysT r with
      | none => rw [e1, e2] at h; cases h
      | some cs =>
        rw [e1, e2] at h
        cases h
        exact .cons e1 (keysT_paired e2)
section
variable {K : PySem.W.Frag} {H : Hp} {pr : Addr → Prop}
theorem key_rep {k : P} {c : Key} {v : V} (h : keyP k = some c) (r : Rep K H pr k v) : v = kV c := by
  cases k <;> simp [keyP] at h <;> subst h
  · exact r
  · exact r.1
theorem keys_reps : ∀ {xs : List P} {kk : List Key} {vs : List V}, keysP xs = some kk → Reps K H pr xs vs → vs = kk.map kV := by
  intro xs kk vs h r
  have p := keysP_paired h
  clear h
  induction p generalizing vs with
  | nil => exact Reps.nil_iff.mp r
  | cons a _ ih =>
    obtain ⟨v, s, rfl, r1, r2⟩ := Reps.cons_iff.mp r
    rw [key_rep a r1, ih r2, List.map_cons]
theorem look_val {κ : Type} [DecidableEq κ] {f : P → Option κ} (inj : ∀ {j k : P} {c : κ}, f j = some c → f k = some c → j = k) {k : P} {c : κ} (hk : f k = some c) : ∀ {ks : List P} {kk : List κ} {vs : List P} {ws : List V}, Paired (fun j c => f j = some c) ks kk → Reps K H pr vs ws → ks.length = vs.length →
    (∀ z, lookP k ks vs = some z → ∃ v, valV (kk.zip ws) c = some v ∧ Rep K H pr z v) ∧ (lookP k ks vs = none → valV (kk.zip ws) c = none)
  | _, _, [], ws, .nil, r, _ => by
    rw [Reps.nil_iff] at r
    subst r
    exact ⟨fun z h => (by cases h), fun _ => rfl⟩
  | _, _, _ :: _, _, .nil, _, h => by simp at h
  | _, _, [], _, .cons _ _, _, h => by simp at h
  | j :: ks, d :: kk, y :: vs, ws, .cons a p, r, hl => by
    obtain ⟨v, s, rfl, r1, r2⟩ := Reps.cons_iff.mp r
    obtain ⟨q1, q2⟩ := look_val inj hk p r2 (by simpa using hl)
    rw [List.zip_cons_cons]
    unfold lookP
    by_cases e : j = k
    · subst e
      rw [if_pos rfl]
      have : d = c := by rw [a] at hk; exact Option.some.inj hk
      exact ⟨fun z h => by
        cases h
        exact ⟨v, valV_pos this, r1⟩, fun h => by cases h⟩
    · rw [if_neg e]
      have : ¬ d = c := fun z => e (inj a (z ▸ hk))
      exact ⟨fun z h => by
        obtain ⟨v2, h1, h2⟩ := q1 z h
        exact ⟨v2, (valV_neg this).trans h1, h2⟩, fun h => (valV_neg this).trans (q2 h)⟩
theorem isKey_atom {xs : List P} (h : xs.all atomP = true) : ∃ kk, keysP xs = some kk := by
  induction xs with
  | nil => exact ⟨[], rfl⟩
  | cons x r ih =>
    rw [List.all_cons, Bool.and_eq_true] at h
    obtain ⟨kk, e⟩ := ih h.2
    cases x <;> first | (have h1 := h.1; cases h1; done) | exact ⟨_, by simp only [keysP, keyP, e]; rfl⟩
def rIxDic : R2 := fun x y H Q => ∃ a v, x = .ref a ∧ DGet H a y (some v) ∧ Q v H
theorem atoms_np {xs : List P} (h : xs.all atomP = true) : isPairs xs = false := by
  cases xs with
  | nil => rfl
  | cons x r =>
    rw [List.all_cons, Bool.and_eq_true] at h
    cases x <;> first | rfl | (have h1 := h.1; cases h1)
theorem ix_dict {X : Cx} (hu : X.A.units + 1 < cLine) : IxR X rIxDic := by
  intro value slice pins s σ H x y v u Q I rx ry h hs
  obtain ⟨a, v0, rfl, g, q⟩ := h
  obtain rfl : v = Value.ref a := rx
  exact tail_any (dict_typeIs I g) PySem.F.slot_dict_getitem.lookup (d_getItem hu I g ry fun w' s3 I3 rw' => ⟨v0, H, I3, rw', q⟩) hs
end
section
variable {K : PySem.W.Frag} {H : Hp} {pr : Addr → Prop}
theorem look_mem {k z : P} : ∀ {ks vs : List P}, lookP k ks vs = some z → k ∈ ks
  | [], vs, h => by cases h
  | j :: ks, [], h => by cases h
  | j :: ks, v :: vs, h => by
    unfold lookP at h
    by_cases e : j = k
    · rw [e]
      exact List.mem_cons_self
    · rw [if_neg e] at h
      exact List.mem_cons_of_mem _ (look_mem h)
theorem look_some {k : P} : ∀ {ks vs : List P}, k ∈ ks → ks.length = vs.length → ∃ z, lookP k ks vs = some z
  | [], vs, h, hl => by cases h
  | j :: ks, [], h, hl => by simp at hl
  | j :: ks, v :: vs, h, hl => by
    unfold lookP
    by_cases e : j = k
    · exact ⟨v, if_pos e⟩
    · rw [if_neg e]
      rcases List.mem_cons.mp h with h | h
      · exact absurd h.symm e
      · exact look_some h (by simpa using hl)
theorem paired_mem {ι κ : Type} {R : ι → κ → Prop} {js : List ι} {cs : List κ} (h : Paired R js cs) : ∀ j ∈ js, ∃ c, R j c := by
  induction h with
  | nil => exact fun j hj => by cases hj
  | cons a _ ih => exact fun j hj => (List.mem_cons.mp hj).elim (fun e => ⟨_, e ▸ a⟩) (ih j)
theorem atom_key {k : P} (h : isKeyP k = true) (n : isTupP k = false) : ∃ c, keyP k = some c := by
  cases k <;> first | exact ⟨_, rfl⟩ | cases h | cases n
theorem tup_key {k : P} (h : isKeyP k = true) (n : isTupP k = true) : ∃ xs kk, k = .tup xs ∧ keyT k = some kk ∧ keysP xs = some kk := by
  cases k <;> first | cases n | skip
  obtain ⟨kk, e⟩ := isKey_atom (show (_ : List P).all atomP = true from h)
  exact ⟨_, kk, rfl, e, e⟩
theorem keyP_tup {k : P} {c : Key} (h : keyP k = some c) : isTupP k = false := by
  cases k <;> first | rfl | cases h
theorem keyT_tup {k : P} {c : List Key} (h : keyT k = some c) : isTupP k = true := by
  cases k <;> first | rfl | cases h
/-- the value at a key that is there -/
theorem dget_rep {a : Addr} {ks vs : List P} {ws : List V} {u : HO} {k z : P} {y : V} (hr : Rd H a u) (d : DicO ks ws u) (rp : Reps K H pr vs ws) (hk : isKeyP k = true) (ry : Rep K H pr k y) (hz : lookP k ks vs = some z) : ∃ v, DGet H a y (some v) ∧ Rep K H pr z v := by
  have hl : ks.length = vs.length := d.1.trans rp.len.symm
  rcases d.2 with ⟨kk, e, rfl⟩ | ⟨kk, e, rfl⟩
  · obtain ⟨c, ec⟩ := paired_mem (keysP_paired e) k (look_mem hz)
    obtain ⟨v, h1, h2⟩ := (look_val (f := keyP) (fun a b => keyP_inj a b) ec (keysP_paired e) rp hl).1 z hz
    exact ⟨v, .inl ⟨_, c, hr, key_rep ec ry, h1.symm⟩, h2⟩
  · obtain ⟨c, ec⟩ := paired_mem (keysT_paired e) k (look_mem hz)
    obtain ⟨v, h1, h2⟩ := (look_val (f := keyT) (fun a b => keyT_inj a b) ec (keysT_paired e) rp hl).1 z hz
    obtain ⟨xs, kk', rfl, e1, e2⟩ := tup_key hk (keyT_tup ec)
    obtain ⟨b, us, rfl, eb, ru⟩ := ry
    rw [atoms_np hk] at eb
    have eb : H b = some (.tup us) := eb
    cases e1.symm.trans ec
    exact ⟨v, .inr ⟨_, c, b, hr, rfl, by rw [eb, keys_reps e2 ru], h1.symm⟩, h2⟩
theorem ov_ixQ : OpV K (rOf2 fun x y H Q => rIx K x y H Q ∨ rIxDic x y H Q) ixQ := .two (fun H pr x y v w z Q hp r1 r2 hf hq => by
  by_cases hd : ∃ ks vs, x = .dic ks vs
  · obtain ⟨ks, vs, rfl⟩ := hd
    simp only [ixQ] at hf
    split at hf
    · rename_i hk
      obtain ⟨a, ws, u, rfl, hr, d, rp⟩ := r1
      have ry : Rep K H pr y w := by
        cases y <;> first | exact r2 | cases hk
      obtain ⟨v, g, rz⟩ := dget_rep hr d rp hk ry hf
      exact .inr ⟨a, v, rfl, g, hq H v (Same.refl _) rz⟩
    · cases hf
  · refine .inl (ov_ix H pr [x, y] [v, w] z Q hp ⟨v, [w], rfl, r1, w, [], rfl, r2, rfl⟩ ?_ hq v w rfl)
    unfold ixQ at hf
    split at hf
    · rename_i ks vs k e
      cases e
      exact absurd ⟨_, _, rfl⟩ hd
    · exact hf) fun xs z hf => by
  unfold ixQ at hf
  split at hf
  · exact ⟨_, _, rfl⟩
  · exact ints2 (f := ixP) hf rfl (fun a => by cases a <;> simp [ixP]) fun a b c r => by cases a <;> simp [ixP]
end
/-! ### in -/
def DHas (H : Hp) (a : Addr) (y : V) (b : Bool) : Prop :=
  (∃ o, DGet H a y o ∧ b = o.isSome) ∨ (b = false ∧ Rd H a (.dK []) ∧ ∃ (k : List Key) (t : Addr), y = .ref t ∧ H t = some (.tup (k.map kV))) ∨ (b = false ∧ Rd H a (.dT []) ∧ ∃ k, y = kV k)
theorem empty_k {X : Cx} {pins : List (Addr × Obj)} {σ : L2.St} {H : Hp} {s : Shared} {a : Addr} (I : L2.Inv X pins σ H s) (e : Rd H a (.dK [])) : (a == sysModules) = false ∧ s.heap.DictOfH (tupleKind (mixKind X.prog X.w)) a [] := by
  obtain ⟨z, hd, vs, rel, dd⟩ := dk_rd I.hok e
  cases rel
  obtain ⟨o, es, ep, h1, h2, h3, _, h5, _⟩ := dd
  refine ⟨hd, o, es, ep, h1, h2, h3, ?_, fun x hx => absurd hx List.not_mem_nil, List.nodup_nil⟩
  generalize es.toList = l at h5 ⊢
  cases h5
  rfl
theorem empty_t {X : Cx} {pins : List (Addr × Obj)} {σ : L2.St} {H : Hp} {s : Shared} {a : Addr} (I : L2.Inv X pins σ H s) (e : Rd H a (.dT [])) : (a == sysModules) = false ∧ s.heap.DictOf (mixKind X.prog X.w) a [] := by
  obtain ⟨z, hd, xs, rel, dd⟩ := dt_rd I.hok e
  have hx : xs = [] := by
    cases rel
    rfl
  subst hx
  obtain ⟨o, es, ep, h1, h2, h3, h4, _, _⟩ := dd
  have he : es = #[] := by
    apply Array.toList_inj.mp
    simpa using h4
  subst he
  exact ⟨hd, o, #[], ep, h1, h2, h3, fun e he => by simp at he, .nil, List.nodup_nil⟩
def rInDic (neg : Bool) : R2 := fun x y H Q => ∃ a b, y = .ref a ∧ DHas H a x b ∧ Q (.bl (if neg then !b else b)) H
theorem op_inDic {X : Cx} (hu : X.A.units + 1 < cLine) : OpR X (compareOp .In) (rInDic false) := by
  intro pins s σ H x y v u Q I rx ry h
  obtain ⟨a, b, rfl, g, q⟩ := h
  cases ry
  rcases g with ⟨o, g, rfl⟩ | ⟨rfl, e, k, t, rfl, et⟩ | ⟨rfl, e, k, rfl⟩
  · exact d_in hu I g rx fun s' I' => ⟨.bl o.isSome, H, I', rfl, q⟩
  · cases rx
    obtain ⟨hd, dd⟩ := empty_k I e
    exact wpAny_in_heap (tupleKind_room_in1 hu) (key_of I.hok et) hd dd ⟨.bl false, H, I.tok _, rfl, q⟩
  · obtain ⟨hd, dd⟩ := empty_t I e
    exact wpAny_in_of (kV_is rx) hd dd.mapOf ⟨.bl false, H, I.tok _, rfl, q⟩
theorem op_notInDic {X : Cx} (hu : X.A.units + 1 < cLine) : OpR X (compareOp .NotIn) (rInDic true) := by
  intro pins s σ H x y v u Q I rx ry h
  obtain ⟨a, b, rfl, g, q⟩ := h
  cases ry
  rcases g with ⟨o, g, rfl⟩ | ⟨rfl, e, k, t, rfl, et⟩ | ⟨rfl, e, k, rfl⟩
  · exact d_notIn hu I g rx fun s' I' => ⟨.bl (!o.isSome), H, I', rfl, q⟩
  · cases rx
    obtain ⟨hd, dd⟩ := empty_k I e
    exact wpAny_notIn_heap (tupleKind_room_in1 hu) (key_of I.hok et) hd dd ⟨.bl true, H, I.tok _, rfl, q⟩
  · obtain ⟨hd, dd⟩ := empty_t I e
    exact wpAny_notIn_of (kV_is rx) hd dd.mapOf ⟨.bl true, H, I.tok _, rfl, q⟩
def rInAll (K : PySem.W.Frag) : R2 := fun x y H Q => rInDic false x y H Q ∨ rInD K x y H Q ∨ ∃ (c : Nat) (z : Str), x = .str ⟨#[c]⟩ ∧ y = .str z ∧ Q (.bl (decide (c ∈ z.cps.toList))) H
def rNotInAll (K : PySem.W.Frag) : R2 := fun x y H Q => rInDic true x y H Q ∨ rNotInD K x y H Q ∨ ∃ (c : Nat) (z : Str), x = .str ⟨#[c]⟩ ∧ y = .str z ∧ Q (.bl (!decide (c ∈ z.cps.toList))) H
theorem op_inAll {X : Cx} (hu : X.A.units + 100 < cLine) : OpR X (compareOp .In) (rInAll X.K) := OpR.or (op_inDic (by omega)) (OpR.or (op_inD (by omega)) op_in_sign)
theorem op_notInAll {X : Cx} (hu : X.A.units + 100 < cLine) : OpR X (compareOp .NotIn) (rNotInAll X.K) := OpR.or (op_notInDic (by omega)) (OpR.or (op_notInD (by omega)) op_notIn_sign)
theorem room100 {k : Nat} {A : Around} (r : Room k A) : A.units + 100 < cLine := by have := r.un; omega
theorem ix_all {X : Cx} (hu : X.A.units + 100 < cLine) : IxR X (fun x y H Q => rIx X.K x y H Q ∨ rIxDic x y H Q) := IxR.or ix_seq (ix_dict (by omega))
section
variable {K : PySem.W.Frag} {H : Hp} {pr : Addr → Prop}
theorem dhas_rep {a : Addr} {ks vs : List P} {ws : List V} {u : HO} {k : P} {y : V} (hr : Rd H a u) (d : DicO ks ws u) (rp : Reps K H pr vs ws) (hk : isKeyP k = true) (hks : ks.all (fun j => isTupP j == isTupP k) = true) (ry : Rep K H pr k y) : DHas H a y (decide (k ∈ ks)) := by
  have hl : ks.length = vs.length := d.1.trans rp.len.symm
  cases ht : isTupP k with
  | false =>
    obtain ⟨c, ec⟩ := atom_key hk ht
    rcases d.2 with ⟨kk, e, rfl⟩ | ⟨kk, e, rfl⟩
    · obtain ⟨q1, q2⟩ := look_val (f := keyP) (fun a b => keyP_inj a b) ec (keysP_paired e) rp hl
      refine .inl ⟨_, .inl ⟨_, c, hr, key_rep ec ry, rfl⟩, ?_⟩
      by_cases hm : k ∈ ks
      · obtain ⟨z, hz⟩ := look_some hm hl
        obtain ⟨v, h1, _⟩ := q1 z hz
        rw [h1]
        exact decide_eq_true hm
      · cases hz : lookP k ks vs with
        | none => rw [q2 hz]; exact decide_eq_false hm
        | some z => exact absurd (look_mem hz) hm
    · cases ks with
      | nil =>
        cases e
        exact .inr (.inr ⟨by simp, hr, c, key_rep ec ry⟩)
      | cons j r =>
        obtain ⟨c', e'⟩ := paired_mem (keysT_paired e) j List.mem_cons_self
        have := List.all_eq_true.mp hks j List.mem_cons_self
        rw [keyT_tup e', ht] at this
        cases this
  | true =>
    obtain ⟨xs, kk', rfl, ec, e2⟩ := tup_key hk ht
    obtain ⟨b, us, rfl, eb, ru⟩ := ry
    rw [atoms_np hk] at eb
    have eb : H b = some (.tup us) := eb
    have eb' : H b = some (.tup (kk'.map kV)) := by rw [eb, keys_reps e2 ru]
    rcases d.2 with ⟨kk, e, rfl⟩ | ⟨kk, e, rfl⟩
    · cases ks with
      | nil =>
        cases e
        exact .inr (.inl ⟨by simp, hr, kk', b, rfl, eb'⟩)
      | cons j r =>
        obtain ⟨c', e'⟩ := paired_mem (keysP_paired e) j List.mem_cons_self
        have := List.all_eq_true.mp hks j List.mem_cons_self
        rw [keyP_tup e', ht] at this
        cases this
    · obtain ⟨q1, q2⟩ := look_val (f := keyT) (fun a b => keyT_inj a b) ec (keysT_paired e) rp hl
      refine .inl ⟨_, .inr ⟨_, kk', b, hr, rfl, eb', rfl⟩, ?_⟩
      by_cases hm : P.tup xs ∈ ks
      · obtain ⟨z, hz⟩ := look_some hm hl
        obtain ⟨v, h1, _⟩ := q1 z hz
        rw [h1]
        exact decide_eq_true hm
      · cases hz : lookP (.tup xs) ks vs with
        | none => rw [q2 hz]; exact decide_eq_false hm
        | some z => exact absurd (look_mem hz) hm
theorem any_eqv {n : Nat} {x : P} (hx : x.shp n = true) : ∀ {ys : List P}, P.shps n ys = true → ((toPys ys).any fun z => PyData.eqv z (toPy x)) = ys.any fun y => P.eqv y x
  | [], _ => rfl
  | y :: r, h => by
    simp only [P.shps, Bool.and_eq_true] at h
    rw [toPys, List.any_cons, List.any_cons, any_eqv hx h.2, eqv_py n y x h.1 hx]
theorem shp_mono : ∀ (n : Nat) (x : P), x.shp n = true → x.shp (n + 1) = true := fun n x => (P.rec (motive_1 := fun x => ∀ n, x.shp n = true → x.shp (n + 1) = true) (motive_2 := fun xs => ∀ n, P.shps n xs = true → P.shps (n + 1) xs = true)
  (fun n h => by simp [P.shp]) (fun b n h => by simp [P.shp]) (fun i n h => by simp [P.shp]) (fun x n h => by simp [P.shp])
  (fun xs ih n h => by
    cases n with
    | zero => simp [P.shp] at h
    | succ n => simp only [P.shp] at h ⊢; exact ih n h)
  (fun xs ih n h => by
    cases n with
    | zero => simp [P.shp] at h
    | succ n => simp only [P.shp] at h ⊢; exact ih n h)
  (fun ks vs _ _ n h => by cases n <;> simp [P.shp] at h) (fun xs _ n h => by cases n <;> simp [P.shp] at h)
  (fun n h => by simp [P.shps])
  (fun x r i1 i2 n h => by
    simp only [P.shps, Bool.and_eq_true] at h ⊢
    exact ⟨i1 n h.1, i2 n h.2⟩) x) n
theorem inQ_sem {x y z : P} {v w : V} (hf : inQ [x, y] = some z) (r1 : RepT K H pr x v) (r2 : RepT K H pr y w) : ∃ b, z = .bl b ∧ ((∃ a, w = .ref a ∧ DHas H a v b) ∨
    (∃ d ds, Dp K H v d ∧ Dp K H w (.list ds) ∧ SeqAt.shaped d = true ∧ SeqAt.shaped (.list ds) = true ∧ (ds.any fun z => PyData.eqv z d) = b) ∨ ∃ (c : Nat) (zz : Str), v = .str ⟨#[c]⟩ ∧ w = .str zz ∧ decide (c ∈ zz.cps.toList) = b) := by
  unfold inQ at hf
  split at hf
  · rename_i k ks vs e
    cases e
    split at hf
    · rename_i hc
      rw [Bool.and_eq_true] at hc
      cases hf
      obtain ⟨a, ws, u, rfl, hr, d, rp⟩ := r2
      have rk : Rep K H pr x v := by
        cases x <;> first | exact r1 | (have := hc.1; cases this)
      exact ⟨_, rfl, .inl ⟨a, rfl, dhas_rep hr d rp hc.1 hc.2 rk⟩⟩
    · cases hf
  · rename_i x' ys e
    cases e
    split at hf
    · rename_i hc
      rw [Bool.and_eq_true] at hc
      cases hf
      have h60 := shp_mono 59 x hc.1
      have hl : P.shp 60 (.lst ys) = true := hc.2
      obtain ⟨d1, c1⟩ := dp_top h60 r1
      obtain ⟨d2, c2⟩ := dp_top hl r2
      have e2 : toPy (.lst ys) = .list (toPys ys) := rfl
      rw [e2] at d2
      exact ⟨_, rfl, .inr (.inl ⟨_, _, d1, d2, shaped_of h60 c1, e2 ▸ shaped_of hl c2, any_eqv hc.1 hc.2⟩)⟩
    · cases hf
  · rename_i c zz e
    cases e
    cases hf
    exact ⟨_, rfl, .inr (.inr ⟨c, strV zz, r1.1, r2.1, by rw [Bool.eq_iff_iff, decide_eq_true_eq, decide_eq_true_eq]; simp [strV]⟩)⟩
  · cases hf
theorem inQ_two (xs : List P) (z : P) (h : inQ xs = some z) : ∃ x y, xs = [x, y] := by
  unfold inQ at h
  split at h
  · exact ⟨_, _, rfl⟩
  · exact ⟨_, _, rfl⟩
  · exact ⟨_, _, rfl⟩
  · cases h
theorem ov_inQ : OpV K (rOf2 (rInAll K)) inQ := .two (fun H pr x y v w z Q hp r1 r2 hf hq => by
  obtain ⟨b, rfl, h⟩ := inQ_sem hf r1 r2
  have q := hq H (.bl b) (Same.refl _) rfl
  rcases h with ⟨a, e, g⟩ | ⟨d, ds, h1, h2, h3, h4, rfl⟩ | ⟨c, zz, h1, h2, rfl⟩
  · exact .inl ⟨a, b, e, g, q⟩
  · exact .inr (.inl ⟨d, ds, h1, h2, h3, h4, q⟩)
  · exact .inr (.inr ⟨c, zz, h1, h2, q⟩)) inQ_two
theorem ov_notInQ : OpV K (rOf2 (rNotInAll K)) notInQ := .two (fun H pr x y v w z Q hp r1 r2 hf hq => by
  unfold notInQ at hf
  split at hf
  · rename_i b0 e
    cases hf
    obtain ⟨b, e2, h⟩ := inQ_sem e r1 r2
    cases e2
    have q := hq H (.bl (!b0)) (Same.refl _) rfl
    rcases h with ⟨a, e, g⟩ | ⟨d, ds, h1, h2, h3, h4, rfl⟩ | ⟨c, zz, h1, h2, rfl⟩
    · exact .inl ⟨a, b0, e, g, q⟩
    · exact .inr (.inl ⟨d, ds, h1, h2, h3, h4, q⟩)
    · exact .inr (.inr ⟨c, zz, h1, h2, q⟩)
  · cases hf) fun xs z hf => by
  unfold notInQ at hf
  split at hf
  · rename_i b e
    exact inQ_two xs _ e
  · cases hf
end
end DL

set_option maxRecDepth 100000
set_option maxHeartbeats 1000000
/-! DX5: dict(pairs) -/
namespace DL
open PySem PySem.Spec PyProof.Rows L2
theorem pairs_raw {X : Cx} {pins : List (Addr × Obj)} {σ : L2.St} {H : Hp} {s : Shared} (I : L2.Inv X pins σ H s) : ∀ {ps : List Addr} {kvs : List (Key × V)}, Paired (fun p kv => SqT X.K H p [kV kv.1, kv.2]) ps kvs →
    ∃ (prs : List (Key × Value)) (us : List Value), KV kvs prs ∧ prs.length = ps.length ∧ us.length = ps.length ∧ ∀ (j : Nat) (b : Addr), ps[j]? = some b → ∃ q u, prs[j]? = some q ∧ us[j]? = some u ∧ IsTup s.heap b #[u, q.2] ∧ keyIs q.1 u = true
  | _, _, .nil => ⟨[], [], .nil, rfl, rfl, fun j b e => by simp at e⟩
  | _, _, .cons (a := p) (b := kv) h t => by
    obtain ⟨prs, us, r, h1, h2, h3⟩ := pairs_raw I t
    obtain ⟨its, rv, ht, _⟩ := I.tuple h
    obtain ⟨u, y, ei, ru, ry⟩ := vals2 rv
    subst ei
    refine ⟨(kv.1, y) :: prs, u :: us, .cons ⟨rfl, ry⟩ r, by simp [h1], by simp [h2], fun j b e => ?_⟩
    cases j with
    | zero =>
      cases e
      exact ⟨_, _, rfl, rfl, ht, kV_is (P := X.prog) (w := X.w) ru⟩
    | succ j =>
      obtain ⟨q, u', e1, e2, e3, e4⟩ := h3 j b (by simpa using e)
      exact ⟨q, u', by simpa using e1, by simpa using e2, e3, e4⟩
/-- dict(t) of a tuple of pairs, its object known -/
def rDictT (K : PySem.W.Frag) : List V → Hp → VK → Prop := fun xs H Q => ∃ (a : Addr) (ps : List Addr) (kvs : List (Key × V)) (o : Obj), xs = [.ref a] ∧ H a = some (.frz o (.tup (ps.map V.ref))) ∧ o.dict = none ∧ Paired (fun p kv => SqT K H p [kV kv.1, kv.2]) ps kvs ∧
    ∀ p, H p = none → Q (.ref p) (upd H p (.dK (mergeK [] kvs)))
theorem call_dictT {X : Cx} (hcalm : X.calm = true) : CallR X (.type "dict") (rDictT X.K) := by
  intro pins s σ H xs us Q I r q
  obtain ⟨a, ps, kvs, o, rfl, ho, hd, hp, q⟩ := q
  obtain ⟨u, rfl, rx⟩ := vals1 r
  cases rx
  obtain ⟨g, hz, its, rv, o', g', hc, n, hdat⟩ := I.hok a _ ho
  cases g.symm.trans g'
  have ei := refs_at rv
  subst ei
  rw [List.length_map] at hz
  obtain ⟨prs, ks, rel, hl, hl2, hpr⟩ := pairs_raw I hp
  have hps : (ks.zip (prs.map (·.2))).length = ps.length := by simp [hl, hl2]
  have P := PySem.PairArg.tuple (prog := X.prog) (w := X.w) a (ps.map Value.ref).toArray (fun j => ps.getD j 0) (ks.zip (prs.map (·.2)))
  refine PySem.call_dict_pairs (knd := mixKind X.prog X.w) (kvs := prs) P (I.ok.hd hcalm) ⟨⟨o, n, g, hc, hd, hdat⟩, ?_, ?_⟩ ⟨by rw [hl, hps], ?_⟩ (by rw [hps]; exact hz) fun h' tk hd' hk => ?_
  · simp [hl, hl2]
  · intro j k v e
    have hj : j < ps.length := by rw [← hps]; exact (List.getElem?_eq_some_iff.mp e).1
    obtain ⟨q, u, e1, e2, e3, e4⟩ := hpr j ps[j] (List.getElem?_eq_getElem hj)
    rw [List.getElem?_zip_eq_some, List.getElem?_map, e1, e2] at e
    obtain ⟨e5, e6⟩ := e
    cases e5
    cases e6
    refine ⟨by simp [hj], .inl ?_⟩
    have eg : ps.getD j 0 = ps[j] := by simp [hj]
    show s.heap.IsTuple (ps.getD j 0) _
    rw [eg]
    exact e3
  · intro j k v e
    have e : (ks.zip (prs.map (·.2)))[j]? = some (k, v) := e
    have hj : j < ps.length := by rw [← hps]; exact (List.getElem?_eq_some_iff.mp e).1
    obtain ⟨q, u, e1, e2, e3, e4⟩ := hpr j ps[j] (List.getElem?_eq_getElem hj)
    rw [List.getElem?_zip_eq_some, List.getElem?_map, e1, e2] at e
    obtain ⟨e5, e6⟩ := e
    cases e5
    cases e6
    exact ⟨q.1, e1, e4⟩
  · have hm : (s.heap.objs.size == sysModules) = false := beq_eq_false_iff_ne.mpr (Nat.ne_of_gt I.big)
    have hlen : (mergeK [] kvs).length ≤ sizeLine := by
      refine Nat.le_trans (length_mergeK kvs []) ?_
      rw [List.length_nil, Nat.zero_add, rel.length, hl]
      exact hz
    exact ⟨.ref s.heap.objs.size, _, I.laid (t' := tk) (fun b ob e => hk b ob List.not_mem_nil e) (Nat.le_refl _) (show ObjOk X.prog X.w _ _ _ (.dK (mergeK [] kvs)) from ⟨hlen, hm, merged [] prs, KV.merge rel .nil, hd'⟩), rfl, q _ (I.hok.fresh (Nat.le_refl _))⟩
section
variable {K : PySem.W.Frag} {H : Hp} {pr : Addr → Prop}
/-- the pairs of data, by addresses -/
theorem pairs_rep : ∀ {xs : List P} {qs : List (P × P)} {vs : List V}, pairsP xs = some qs → Reps K H pr xs vs →
    ∃ (ps : List Addr) (kvs : List (Key × V)), vs = ps.map V.ref ∧ Paired (fun p kv => SqT K H p [kV kv.1, kv.2]) ps kvs ∧ Paired (fun (q : P × P) (kv : Key × V) => keyP q.1 = some kv.1 ∧ Rep K H pr q.2 kv.2) qs kvs
  | [], qs, vs, h, r => by
    cases h
    rw [Reps.nil_iff] at r
    subst r
    exact ⟨[], [], rfl, .nil, .nil⟩
  | x :: xs, qs, vs, h, r => by
    obtain ⟨v, s, rfl, r1, r2⟩ := Reps.cons_iff.mp r
    unfold pairsP at h
    cases e1 : pairP2 x with
    | none => rw [e1] at h; cases h
    | some q =>
      cases e2 : pairsP xs with
      | none => rw [e1, e2] at h; cases h
      | some qs' =>
        rw [e1, e2] at h
        cases h
        obtain ⟨ps, kvs, rfl, h1, h2⟩ := pairs_rep e2 r2
        unfold pairP2 at e1
        split at e1
        · rename_i k z
          split at e1
          · rename_i hk
            cases e1
            obtain ⟨p, ws, rfl, sq, rp⟩ := r1
            obtain ⟨v1, s1, rfl, a1, b1⟩ := Reps.cons_iff.mp rp
            obtain ⟨v2, s2, rfl, a2, b2⟩ := Reps.cons_iff.mp b1
            rw [Reps.nil_iff] at b2
            subst b2
            obtain ⟨c, ec⟩ : ∃ c, keyP k = some c := by cases k <;> first | exact ⟨_, rfl⟩ | cases hk
            have := key_rep ec a1
            subst this
            exact ⟨p :: ps, (c, v2) :: kvs, rfl, .cons sq.sq h1, .cons ⟨ec, a2⟩ h2⟩
          · cases e1
        · cases e1
/-- a dict's entries, by a kind of keys -/
def Ents {κ : Type} (K : PySem.W.Frag) (H : Hp) (pr : Addr → Prop) (f : P → Option κ) (acc : List (P × P)) (kvs : List (κ × V)) : Prop := Paired (fun (q : P × P) (kv : κ × V) => f q.1 = some kv.1 ∧ Rep K H pr q.2 kv.2) acc kvs
section
variable {κ : Type} [DecidableEq κ] {f : P → Option κ}
theorem ents_any (inj : ∀ {j k : P} {c : κ}, f j = some c → f k = some c → j = k) {k : P} {c : κ} (hk : f k = some c) : ∀ {acc : List (P × P)} {kvs : List (κ × V)}, Ents K H pr f acc kvs → (kvs.any fun kv => decide (kv.1 = c)) = acc.any fun q => decide (q.1 = k)
  | [], [], .nil => rfl
  | q :: acc, kv :: kvs, .cons a p => by
    rw [List.any_cons, List.any_cons, ents_any inj hk p]
    congr 1
    rw [Bool.eq_iff_iff, decide_eq_true_eq, decide_eq_true_eq]
    exact ⟨fun e => inj a.1 (e ▸ hk), fun e => by
      have := a.1
      rw [e, hk] at this
      exact (Option.some.inj this).symm⟩
theorem ents_map (inj : ∀ {j k : P} {c : κ}, f j = some c → f k = some c → j = k) {k z : P} {c : κ} {v : V} (hk : f k = some c) (rz : Rep K H pr z v) : ∀ {acc : List (P × P)} {kvs : List (κ × V)}, Ents K H pr f acc kvs → Ents K H pr f (acc.map fun q => if q.1 = k then (q.1, z) else q) (kvs.map fun kv => if kv.1 = c then (kv.1, v) else kv)
  | [], [], .nil => .nil
  | q :: acc, kv :: kvs, .cons a p => by
    refine .cons ?_ (ents_map inj hk rz p)
    dsimp only
    by_cases e : q.1 = k
    · have ec : kv.1 = c := by
        have := a.1
        rw [e, hk] at this
        exact (Option.some.inj this).symm
      rw [if_pos e, if_pos ec]
      exact ⟨a.1, rz⟩
    · have ec : ¬ kv.1 = c := fun z => e (inj a.1 (z ▸ hk))
      rw [if_neg e, if_neg ec]
      exact a
theorem ents_app {κ : Type} {f : P → Option κ} {k z : P} {c : κ} {v : V} (hk : f k = some c) (rz : Rep K H pr z v) : ∀ {acc : List (P × P)} {kvs : List (κ × V)}, Ents K H pr f acc kvs → Ents K H pr f (acc ++ [(k, z)]) (kvs ++ [(c, v)])
  | [], [], .nil => .cons ⟨hk, rz⟩ .nil
  | q :: acc, kv :: kvs, .cons a p => .cons a (ents_app hk rz p)
theorem put_ents (inj : ∀ {j k : P} {c : κ}, f j = some c → f k = some c → j = k) {k z : P} {c : κ} {v : V} (hk : f k = some c) (rz : Rep K H pr z v) {acc : List (P × P)} {kvs : List (κ × V)} (h : Ents K H pr f acc kvs) : Ents K H pr f (putP k z acc) (putK kvs c v) := by
  unfold putP putK
  rw [ents_any inj hk h]
  split
  · exact ents_map inj hk rz h
  · exact ents_app hk rz h
end
theorem merge_rel : ∀ {qs : List (P × P)} {kvs : List (Key × V)} {acc : List (P × P)} {vs : List (Key × V)}, Ents K H pr keyP qs kvs → Ents K H pr keyP acc vs → Ents K H pr keyP (qs.foldl (fun acc p => putP p.1 p.2 acc) acc) (mergeK vs kvs)
  | [], [], acc, vs, .nil, a => a
  | q :: qs, kv :: kvs, acc, vs, .cons b p, a => merge_rel (qs := qs) (kvs := kvs) p (put_ents (fun a b => keyP_inj a b) b.1 b.2 a)
theorem dic_rep : ∀ {acc : List (P × P)} {kvs : List (Key × V)}, Ents K H pr keyP acc kvs → keysP (acc.map (·.1)) = some (kvs.map (·.1)) ∧ Reps K H pr (acc.map (·.2)) (kvs.map (·.2))
  | [], [], .nil => ⟨rfl, Reps.nil_iff.mpr rfl⟩
  | q :: acc, kv :: kvs, .cons a p => by
    obtain ⟨h1, h2⟩ := dic_rep p
    exact ⟨by rw [List.map_cons, List.map_cons, keysP, a.1, h1], Reps.cons_iff.mpr ⟨_, _, rfl, a.2, h2⟩⟩
theorem zip_self : ∀ kvs : List (Key × V), (kvs.map (·.1)).zip (kvs.map (·.2)) = kvs
  | [] => rfl
  | kv :: r => by rw [List.map_cons, List.map_cons, List.zip_cons_cons, zip_self r]
theorem dicO_of {acc : List (P × P)} {kvs : List (Key × V)} (h : Ents K H pr keyP acc kvs) : DicO (acc.map (·.1)) (kvs.map (·.2)) (.dK kvs) := by
  obtain ⟨h1, h2⟩ := dic_rep h
  refine ⟨by rw [List.length_map, List.length_map]; exact h.length, .inl ⟨_, h1, by rw [zip_self]⟩⟩
def rDictL (K : PySem.W.Frag) : List V → Hp → VK → Prop := fun xs H Q => ∃ (a : Addr) (ps : List Addr) (kvs : List (Key × V)), xs = [.ref a] ∧ SqL K H a (ps.map V.ref) ∧ Paired (fun p kv => SqT K H p [kV kv.1, kv.2]) ps kvs ∧
    ∀ p, H p = none → Q (.ref p) (upd H p (.dK (mergeK [] kvs)))
theorem call_dictQ {X : Cx} (hc : X.calm = true) : CallR X (.type "dict") (fun xs H Q => rDictL X.K xs H Q ∨ rDictT X.K xs H Q) := CallR.or (call_dictP hc) (call_dictT hc)
theorem of_dict : OpF K (fun xs H Q => rDictL K xs H Q ∨ rDictT K xs H Q) dictP := by
  intro H pr xs vs y Q hp hr hf hq
  unfold dictP at hf
  split at hf
  · rename_i zs
    obtain ⟨v, rfl, r1⟩ := repTs1 hr
    obtain ⟨a, ws, rfl, s, rp⟩ := r1.lst
    cases e : pairsP zs with
    | none => rw [e] at hf; cases hf
    | some qs =>
      rw [e] at hf
      cases hf
      obtain ⟨ps, kvs, rfl, h1, h2⟩ := pairs_rep e rp
      have m := merge_rel h2 (acc := []) (vs := []) .nil
      exact .inl ⟨a, ps, kvs, rfl, .of s, h1, fun p np => hq.dic (dicO_of m) (dic_rep m).2 np⟩
  · rename_i zs
    split at hf
    · rename_i hb
      obtain ⟨v, rfl, r1⟩ := repTs1 hr
      obtain ⟨a, ws, rfl, s, rp⟩ := r1.tup
      cases e : pairsP zs with
      | none => rw [e] at hf; cases hf
      | some qs =>
        rw [e] at hf
        cases hf
        obtain ⟨ps, kvs, rfl, h1, h2⟩ := pairs_rep e rp
        have m := merge_rel h2 (acc := []) (vs := []) .nil
        rw [hb] at s
        obtain ⟨o, s, hd⟩ := s
        exact .inr ⟨a, ps, kvs, o, rfl, s, hd, h1, fun p np => hq.dic (dicO_of m) (dic_rep m).2 np⟩
    · cases hf
  · cases hf
theorem dictP_dic : ∀ xs y, dictP xs = some y → (∃ xs, y = .lst xs) ∨ (∃ ks xs, y = .dic ks xs) := by
  intro xs y h
  unfold dictP at h
  split at h
  · obtain ⟨qs, _, rfl⟩ := Option.map_eq_some_iff.mp h
    exact .inr ⟨_, _, rfl⟩
  · split at h
    · obtain ⟨qs, _, rfl⟩ := Option.map_eq_some_iff.mp h
      exact .inr ⟨_, _, rfl⟩
    · cases h
  · cases h
end
end DL

set_option maxRecDepth 100000
set_option maxHeartbeats 1000000
/-! DX6: d[k] = v -/
namespace DL
open PySem PySem.Spec PyProof.Rows L2
theorem upd_upd {H : Hp} {a : Addr} {x y : HO} : upd (upd H a x) a y = upd H a y := by
  funext b
  by_cases h : b = a
  · subst h
    rw [upd_same, upd_same]
  · rw [upd_ne h, upd_ne h, upd_ne h]
def rSetDQ : TSet := fun o i v H Q => rSetD o i v H Q ∨ (∃ a k, o = .ref a ∧ H a = some (.dT []) ∧ i = kV k ∧ Q (upd H a (.dK [(k, v)]))) ∨
  ∃ a k b, o = .ref a ∧ H a = some (.dK []) ∧ i = .ref b ∧ H b = some (.tup (k.map kV)) ∧ Q (upd H a (.dT [(k, v)]))
theorem set_dictQ {X : Cx} (hu : X.A.units + 1 < cLine) : PSet X rSetDQ := by
  intro pins s σ H o i v ov iv u Q I ro ri rv h
  rcases h with h | ⟨a, k, rfl, e, rfl, q⟩ | ⟨a, k, b, rfl, e, rfl, eb, q⟩
  · exact set_dict hu pins s σ H o i v ov iv u Q I ro ri rv h
  · obtain ⟨hd, dd⟩ := empty_t I (.inl e)
    have he : ∃ q, s.heap.get? a = some q := let ⟨q, _, _, hq, _⟩ := dd; ⟨q, hq⟩
    have I1 : Inv X pins σ (upd H a (.dK [])) { s with heap := s.heap, toks := s.toks } := d_write I (by rw [e]; trivial) (.refl a s.heap) he (dk_new (kvs := []) (vs := []) (by simp) hd .nil dd)
    refine set_dict hu pins _ σ _ _ _ v ov iv u Q I1 ro ri rv ⟨a, _, rfl, DPut.k upd_same (by decide), ?_⟩
    rw [upd_upd]
    exact q
  · obtain ⟨hd, dd⟩ := empty_k I (.inl e)
    obtain ⟨q0, es, ep, hq, h2, h3, h4, _, h5⟩ := dd
    have I1 : Inv X pins σ (upd H a (.dT [])) { s with heap := s.heap, toks := s.toks } := d_write I (by rw [e]; trivial) (.refl a s.heap) ⟨q0, hq⟩ ⟨by simp, hd, [], .nil, q0, es, ep, hq, h2, h3, h4, h5⟩
    have hb : b ≠ a := fun z => by
      subst z
      rw [e] at eb
      cases eb
    refine set_dict hu pins _ σ _ _ _ v ov iv u Q I1 ro ri rv ⟨a, _, rfl, DPut.t upd_same ((upd_ne hb).trans eb) (by decide), ?_⟩
    rw [upd_upd]
    exact q
section
variable {K : PySem.W.Frag} {H : Hp} {pr : Addr → Prop}
theorem ents_k : ∀ {kvs : List (P × P)} {kk : List Key} {vs : List V}, keysP (kvs.map (·.1)) = some kk → Reps K H pr (kvs.map (·.2)) vs → Ents K H pr keyP kvs (kk.zip vs)
  | [], kk, vs, h, r => by
    cases h
    exact .nil
  | q :: kvs, kk, vs, h, r => by
    rw [List.map_cons] at h r
    unfold keysP at h
    cases e1 : keyP q.1 with
    | none => rw [e1] at h; cases h
    | some c =>
      cases e2 : keysP (kvs.map (·.1)) with
      | none => rw [e1, e2] at h; cases h
      | some cs =>
        rw [e1, e2] at h
        cases h
        obtain ⟨v, s, rfl, a, b⟩ := Reps.cons_iff.mp r
        exact .cons ⟨e1, a⟩ (ents_k e2 b)
theorem ents_t : ∀ {kvs : List (P × P)} {kk : List (List Key)} {vs : List V}, keysT (kvs.map (·.1)) = some kk → Reps K H pr (kvs.map (·.2)) vs → Ents K H pr keyT kvs (kk.zip vs)
  | [], kk, vs, h, r => by
    cases h
    exact .nil
  | q :: kvs, kk, vs, h, r => by
    rw [List.map_cons] at h r
    unfold keysT at h
    cases e1 : keyT q.1 with
    | none => rw [e1] at h; cases h
    | some c =>
      cases e2 : keysT (kvs.map (·.1)) with
      | none => rw [e1, e2] at h; cases h
      | some cs =>
        rw [e1, e2] at h
        cases h
        obtain ⟨v, s, rfl, a, b⟩ := Reps.cons_iff.mp r
        exact .cons ⟨e1, a⟩ (ents_t e2 b)
theorem dic_repT : ∀ {acc : List (P × P)} {kvs : List (List Key × V)}, Ents K H pr keyT acc kvs → keysT (acc.map (·.1)) = some (kvs.map (·.1)) ∧ Reps K H pr (acc.map (·.2)) (kvs.map (·.2))
  | [], [], .nil => ⟨rfl, Reps.nil_iff.mpr rfl⟩
  | q :: acc, kv :: kvs, .cons a p => by
    obtain ⟨h1, h2⟩ := dic_repT p
    exact ⟨by rw [List.map_cons, List.map_cons, keysT, a.1, h1], Reps.cons_iff.mpr ⟨_, _, rfl, a.2, h2⟩⟩
theorem zip_selfT : ∀ kvs : List (List Key × V), (kvs.map (·.1)).zip (kvs.map (·.2)) = kvs
  | [] => rfl
  | kv :: r => by rw [List.map_cons, List.map_cons, List.zip_cons_cons, zip_selfT r]
theorem dicO_ofT {acc : List (P × P)} {kvs : List (List Key × V)} (h : Ents K H pr keyT acc kvs) : DicO (acc.map (·.1)) (kvs.map (·.2)) (.dT kvs) := by
  obtain ⟨h1, h2⟩ := dic_repT h
  refine ⟨by rw [List.length_map, List.length_map]; exact h.length, .inr ⟨_, h1, by rw [zip_selfT]⟩⟩
end
theorem setDM_nd : ∀ o ys, setDM o ys = none ∨ o ≠ .dead := by
  intro o ys
  cases o with
  | dead => exact .inl rfl
  | _ => exact .inr fun z => nomatch z
theorem oset_dictQ {K : Kx} : OpSet K rSetDQ setDM := by
  intro H m B a o o' u k y z kv yv Q eu ru rk ry hg hq
  unfold setDM at hg
  split at hg
  · rename_i kvs k' v' e
    cases e
    split at hg
    · rename_i hc
      cases hg
      simp only [Bool.and_eq_true, decide_eq_true_eq] at hc
      obtain ⟨⟨hk, hall⟩, hlen⟩ := hc
      obtain ⟨vs, d, rp⟩ := ru
      have hl2 : ∀ {κ : Type} (kk : List κ), (kk.zip vs).length < sizeLine := fun kk => by
        have := rp.len
        rw [List.length_zip]
        rw [line_eq] at hlen
        simp at this
        omega
      cases ht : isTupP k with
      | false =>
        obtain ⟨c, ec⟩ := atom_key hk ht
        have ekv := key_rep ec rk
        rcases d.2 with ⟨kk, e, rfl⟩ | ⟨kk, e, rfl⟩
        · have en := put_ents (fun a b => keyP_inj a b) ec ry (ents_k e rp)
          exact .inl ⟨a, _, rfl, .inl ⟨_, c, eu, ekv, hl2 kk, rfl⟩, hq _ ⟨_, dicO_of en, (dic_rep en).2⟩⟩
        · cases kvs with
          | nil =>
            cases e
            have en : Ents K H (Pr m B) keyP [(k, y)] [(c, yv)] := .cons ⟨ec, ry⟩ .nil
            exact .inr (.inl ⟨a, c, rfl, eu, ekv, hq _ ⟨_, dicO_of en, (dic_rep en).2⟩⟩)
          | cons q r =>
            obtain ⟨c', e'⟩ := paired_mem (keysT_paired e) q.1 List.mem_cons_self
            have := List.all_eq_true.mp hall q List.mem_cons_self
            rw [keyT_tup e', ht] at this
            cases this
      | true =>
        obtain ⟨xs, kk', rfl, ec, e2⟩ := tup_key hk ht
        obtain ⟨b, us, rfl, eb, ru⟩ := rk
        rw [atoms_np hk] at eb
        have eb : H b = some (.tup us) := eb
        have eb' : H b = some (.tup (kk'.map kV)) := by rw [eb, keys_reps e2 ru]
        rcases d.2 with ⟨kk, e, rfl⟩ | ⟨kk, e, rfl⟩
        · cases kvs with
          | nil =>
            cases e
            have en : Ents K H (Pr m B) keyT [(.tup xs, y)] [(kk', yv)] := .cons ⟨ec, ry⟩ .nil
            exact .inr (.inr ⟨a, kk', b, rfl, eu, rfl, eb', hq _ ⟨_, dicO_ofT en, (dic_repT en).2⟩⟩)
          | cons q r =>
            obtain ⟨c', e'⟩ := paired_mem (keysP_paired e) q.1 List.mem_cons_self
            have := List.all_eq_true.mp hall q List.mem_cons_self
            rw [keyP_tup e', ht] at this
            cases this
        · have en := put_ents (fun a b => keyT_inj a b) ec ry (ents_t e rp)
          exact .inl ⟨a, _, rfl, .inr ⟨_, kk', b, eu, rfl, eb', hl2 kk, rfl⟩, hq _ ⟨_, dicO_ofT en, (dic_repT en).2⟩⟩
    · cases hg
  · cases hg
end DL

set_option maxRecDepth 100000
set_option maxHeartbeats 1000000
/-! DX7: ranges of any whole numbers -/
namespace DL
open PySem PySem.Spec PyProof.Rows L2
theorem turn_longrange {P : Program} {w : World} {K : PySem.W.Frag} {tg : Expr} (it : Addr) (lo : Int) (n : Nat) : Turn P w K tg (Itr lo n) [it] it (fun i h => IsLongIter h it (lo + (i : Nat) * 1) ((n : Int) - (i : Nat)) 1) where
  mem := by simp
  obj := fun i h st b hb => by
    have e : b = it := by simpa using hb
    subst e
    exact ⟨_, st, fun v z => by
      have z' : Data.fields _ = Data.cell v := z
      cases z'⟩
  keep := fun i h h' st k => k it (by simp) _ st
  item := by
    intro X hP hw hK hc i pins s σ H E I hf st hg
    subst hP hw hK
    obtain ⟨f0, f1, f2, f3, f4, f5⟩ := hf it (by simp)
    have W := Walks.longrange (prog := X.prog) (w := X.w) (I.ok.hd hc) it lo 1 n
    refine W.item i s _ _ hg st fun v h' tk hv st' kk => ?_
    obtain ⟨t, rfl⟩ := hv
    have I1 : Inv X pins σ H { s with heap := h', toks := tk } := I.turned (fun b o hb e => kk b o (by simpa using hb) e) f0 f1 f3 f4 f5
    refine ⟨_, rfl, go_of (s := { s with heap := h', toks := tk }) (n := "longrange_iterator") st' rfl rfl (by decide) ⟨.int (lo + i), H, I1, ⟨t, ?_⟩, ⟨rfl, rfl⟩, st', fun b hb => (hf b hb).1⟩⟩
    rw [Int.mul_one]
  done := by
    intro X hP hw hK hc i pins s σ H E I hf st hg
    subst hP hw hK
    obtain ⟨f0, f1, f2, f3, f4, f5⟩ := hf it (by simp)
    exact wpAny_pyNext_long_end (I.ok.hd hc) st (by have : n ≤ i := hg; omega) fun h' eb => ⟨rfl, I.turned (t' := s.toks) (fun b o hb e => eb b o hb e) f0 f1 f3 f4 f5⟩
  self := fun _ _ _ _ _ st h => wpAny_pyIter_longiter st h
section
variable {X : Cx} {tg : Expr}
theorem range_itL {pins : List (Addr × Obj)} {σ : L2.St} {H : Hp} {s : Shared} {R : It → Hp → Prop} {E : Value → Shared → Prop} {lo hi : Int} {t u v : Tok} {tk : Nat} (I : Inv X pins σ H s)
    (q : R (Itr lo (hi - lo).toNat) H) : wpAny (model X.prog X.w) X.A (pyIter (.ref s.heap.objs.size)) (PIE X pins σ tg R) E { s with heap := s.heap.push { cls := .type "range", data := .fields #[.int lo t, .int hi u, .int 1 v] }, toks := tk } := by
  have I1 : Inv X pins σ H { s with heap := s.heap.push { cls := .type "range", data := .fields #[.int lo t, .int hi u, .int 1 v] }, toks := tk } := I.kept fun b o e => Heap.get?_push_of_some _ e
  have e1 : lo + ((0 : Nat) : Int) * 1 = lo := by simp
  have e2 : (((hi - lo).toNat : Nat) : Int) - ((0 : Nat) : Int) = Builtin.Range.rangeSize lo hi 1 := by rw [rangeSize_one]; split <;> omega
  cases hs : Builtin.Range.small lo hi 1 with
  | true =>
    refine wpAny_pyIter_range (IsRange.new ..) hs ?_
    refine ⟨(s.heap.push { cls := .type "range", data := .fields #[.int lo t, .int hi u, .int 1 v] }).objs.size, [(s.heap.push { cls := .type "range", data := .fields #[.int lo t, .int hi u, .int 1 v] }).objs.size], _, _, H, rfl,
      I1.kept (t' := tk) fun b o e => Heap.get?_push_of_some _ e, turn_range _ lo (hi - lo).toNat, ?_, fun b hb => ?_, q⟩
    · show IsRangeIter _ _ (lo + ((0 : Nat) : Int) * 1) ((((hi - lo).toNat : Nat) : Int) - ((0 : Nat) : Int)) 1
      rw [e1, e2]
      exact Heap.get?_push_size _ rfl
    · have e : b = (s.heap.push { cls := .type "range", data := .fields #[.int lo t, .int hi u, .int 1 v] }).objs.size := by simpa using hb
      subst e
      exact I1.fpOk (Nat.le_refl _) (I1.hok.fresh (Nat.le_refl _))
  | false =>
    refine wpAny_pyIter_longrange (IsRange.new ..) hs ?_
    refine ⟨(s.heap.push { cls := .type "range", data := .fields #[.int lo t, .int hi u, .int 1 v] }).objs.size, [(s.heap.push { cls := .type "range", data := .fields #[.int lo t, .int hi u, .int 1 v] }).objs.size], _, _, H, rfl,
      I1.kept (t' := tk) fun b o e => Heap.get?_push_of_some _ e, turn_longrange _ lo (hi - lo).toNat, ?_, fun b hb => ?_, q⟩
    · show IsLongIter _ _ (lo + ((0 : Nat) : Int) * 1) ((((hi - lo).toNat : Nat) : Int) - ((0 : Nat) : Int)) 1
      rw [e1, e2]
      exact Heap.get?_push_size _ rfl
    · have e : b = (s.heap.push { cls := .type "range", data := .fields #[.int lo t, .int hi u, .int 1 v] }).objs.size := by simpa using hb
      subst e
      exact I1.fpOk (Nat.le_refl _) (I1.hok.fresh (Nat.le_refl _))
def iRng2L (ta : TA) : TI := fun σ H R => ta σ H fun vs H1 => ∃ i j : Int, vs = [.int i, .int j] ∧ R (Itr i (j - i).toNat) H1
theorem pi_range2L {a b : Expr} {ta : TA} {p pos : Pos} (hg : Gl X "range") (hm : X.mg "range" = none) (ha : PA X [a, b] ta) (hs : starEach [a, b] X.env = [(false, eval a X.env), (false, eval b X.env)]) (hs2 : starEach [b] X.env = [(false, eval b X.env)]) :
    PI X tg (.Call (.Name "range" p) [a, b] [] pos) (iRng2L ta) := by
  refine ⟨fun pins s σ H R I h => ?_⟩
  refine Call_ (ld_blt I hg hm boot_range (PyProof.Rows.callWith_type1 (thn (ha.run pos pins s σ H _ I h) fun us s1 ⟨vs, H1, I1, r1, q1⟩ => ?_) (by rw [hs, hs2]) (by rw [hs2]; rfl)))
  obtain ⟨i, j, e, q⟩ := q1
  subst e
  cases r1 with
  | cons r rr =>
    cases rr with
    | cons r' rr =>
      cases rr
      obtain ⟨t, rfl⟩ := r
      obtain ⟨t', rfl⟩ := r'
      exact call_range_2 (range_itL I1 q)
end
section
variable {X : Cx} {cl : Cls_} {W : WX} {rn : Rn}
theorem di_range2L {tg a b : Expr} {i j : IE} {p pos : Pos} (hg : Gl X "range") (hm : X.mg "range" = none) (ha : DA X cl W [a, b] (evEs rn (.cons i (.cons j .nil)))) (hs : starEach [a, b] X.env = [(false, eval a X.env), (false, eval b X.env)]) (hs2 : starEach [b] X.env = [(false, eval b X.env)]) :
    DI X cl W tg (.Call (.Name "range" p) [a, b] [] pos) range2Q (evEs rn (.cons i (.cons j .nil))) :=
  PI.imp (pi_range2L hg hm ha hs hs2) fun σ H R h => by
    obtain ⟨m, B, e, S, hS, hE, h⟩ := h
    refine tG_bind hS hE h fun ds S1 m1 H1 vs x1 hS1 hE1 r1 h1 eq1 => ?_
    obtain ⟨xs, items, e1, e2, h2⟩ := items_open (rep := rD (kx X cl)) h1
    unfold range2Q at e2
    split at e2
    · rename_i lo hi
      split at e2
      · rename_i hj
        cases e2
        match ds, e1, r1 with
        | [d, d'], e1, r1 =>
          obtain ⟨x, ys, e3, e4, e5⟩ := vals_cons e1
          cases e3
          obtain ⟨x, ys, e6, e7, e8⟩ := vals_cons e5
          cases e6
          have ed := val_int e4
          subst ed
          have ed := val_int e7
          subst ed
          obtain ⟨v, s, rfl, rv, v', s', es, rv', es'⟩ := r1
          cases es'
          subst es
          cases rv
          cases rv'
          refine ⟨lo, hi, rfl, ?_⟩
          exact h2 m1 H1 ([.int lo, .int hi], Itr lo (hi - lo).toNat) .refl hS1 ⟨⟨_, _, rfl, rfl, _, [], rfl, rfl, rfl⟩, goes_range, by simp [rangeL, sizeLine_eq]; omega⟩
        | [], e1, r1 => cases e1
        | [_], e1, r1 =>
          obtain ⟨x, ys, e3, e4, e5⟩ := vals_cons e1
          cases e3
          cases e5
        | _ :: _ :: _ :: _, e1, r1 =>
          obtain ⟨x, ys, e3, e4, e5⟩ := vals_cons e1
          cases e3
          obtain ⟨x, ys, e3, e4, e5⟩ := vals_cons e5
          cases e3
          obtain ⟨x, ys, e3, e4, e5⟩ := vals_cons e5
          cases e3
      · cases e2
    · cases e2
end
end DL

set_option maxRecDepth 100000
set_option maxHeartbeats 1000000
/-! DX8: names out of a list -/
namespace DL
open PySem PySem.Spec PyProof.Rows L2
section
variable {X : Cx} {cl : Cls_} {W : WX} {rn : Rn} {w : Nat} {pos : Pos}
def gDL (k : PySem.W.Frag) (is : List Nat) : TG := fun v σ H Q => ∃ (K : Kx) (m : Mp) (B : Addr → Prop) (e : Env) (S : Store) (xs : List P) (e' : Env), K.k = k ∧ RelS K m B S H ∧ RelE K m B e σ H ∧ RepD K H m B (.p (.lst xs)) v ∧ setMany is xs e = some e' ∧ ∀ σ', RelE K m B e' σ' H → Q σ' H
theorem dg_unl {es : List Expr} {k : Nat} {is : List Nat} (hc : X.calm = true) (h : PGs X es (gNames is)) (hn : (assignEach es X.env).length = is.length) (hst : (assignEach es X.env).findIdx? (·.1) = none) : PG X (.Tuple es k pos) (gDL X.K is) :=
  PG.imp (pg_unl hc h hn hst) fun v σ H Q h => by
    obtain ⟨K, m, B, e, S, xs, e', hK, hS, hE, r, q, h⟩ := h
    obtain ⟨a, vs, e1, n, sq, rp⟩ := r
    exact ⟨a, vs, e1, .of sq, by rw [← rp.len, setMany_len q], setMany_names rp hE q h⟩
theorem ds_asgL {tg a : Expr} {is : List Nat} {i : IE} (ha : DE X cl W a (evE rn i)) (hg : PG X tg (gDL X.K is)) (hs : swapsWithSole [tg] a pos.line X.env = pure false) (hw : swappedStores [tg] a X.env = pure none) (h1 : (assignEach [tg] X.env).map (·.2) = [assign tg X.env]) :
    DS X cl W (.Assign [tg] a pos) (evS rn w (.asg (.many is) (.pk tupL (.cons i .nil)))) := PS.imp (ps_asg ha hg hs hw h1) fun D σ H h => by
  obtain ⟨m, B, e, S, hS, hE, h⟩ := h
  simp only [evS, evE, evEs] at h
  have go_bind : ∀ {α β : Type} (r : R α) (k : α → Store → R β) (k2 : β → Store → RS), (r.bind k).go e k2 = r.go e fun a S => (k a S).go e k2 := fun r k k2 => by cases r <;> rfl
  rw [go_bind, go_bind] at h
  refine tS_bind hS hE h fun d S1 m1 H1 v x1 hS1 hE1 r1 h1 eq1 => ?_
  cases d with
  | ref l => exact h1.elim
  | exc c fs => exact h1.elim
  | p x =>
    cases x with
    | lst xs =>
      simp only [R.bind_ok, R.go_ok, pures, tupL, assignTg] at h1
      cases q : setMany is xs e with
      | none => rw [q] at h1; exact h1.elim
      | some e' =>
        rw [q] at h1
        exact ⟨kx X cl, m1, B, e, S1, xs, e', rfl, hS1, hE1, r1, q, fun σ' re => h1 m1 H1 σ' .refl hS1 re⟩
    | _ => exact h1.elim
end
end DL

set_option maxRecDepth 100000
set_option maxHeartbeats 1000000
/-! DX9: chains, enumerate of a list, insert -/
namespace DL
open PySem PySem.Spec PyProof.Rows L2
section
variable {X : Cx} {cl : Cls_} {W : WX} {rn : Rn} {w : Nat} {pos : Pos}
theorem chain_of {r r' : R2} {f g : List P → Option P} {i j k : IE} (hv : OpV X.K (rOf2 r) f) (hv' : OpV X.K (rOf2 r') g) {σ : L2.St} {H : Hp} {Q : VK} (h : tG (kx X cl) cl W (rD (kx X cl)) (evE rn (.chain (chB f) (chB g) i j k)) σ H Q) : tChain r r' (tG (kx X cl) cl W (rD (kx X cl)) (evE rn i)) (tG (kx X cl) cl W (rD (kx X cl)) (evE rn j)) (tG (kx X cl) cl W (rD (kx X cl)) (evE rn k)) σ H Q := by
  obtain ⟨m, B, e, S, hS, hE, h⟩ := h
  simp only [evE] at h
  refine tG_bind hS hE h fun d1 S1 m1 H1 v1 x1 hS1 hE1 r1 h1 eq1 => ?_
  refine tG_bind hS1 hE1 h1 fun d2 S2 m2 H2 v2 x2 hS2 hE2 r2 h2 eq2 => ?_
  cases d1 with
  | ref l => exact h2.elim
  | exc c fs => exact h2.elim
  | p x =>
    cases d2 with
    | ref l => exact h2.elim
    | exc c fs => exact h2.elim
    | p y =>
      dsimp only at h2
      cases hf : chB f x y with
      | none => rw [hf] at h2; exact h2.elim
      | some b =>
        rw [hf] at h2
        have hf' : f [x, y] = some (.bl b) := by
          unfold chB at hf
          split at hf
          · rename_i c q
            cases hf
            exact q
          · cases hf
        refine hv H2 (Pr m2 B) [x, y] [v1, v2] _ _ (fun a p => hS2.pr p) (RepDs.top (ds := [.p x, .p y]) hS2 ⟨v1, [v2], rfl, x2.repD r1, v2, [], rfl, r2, rfl⟩ rfl) hf' (fun H' u s rp => ?_) v1 v2 rfl
        cases rp
        refine ⟨b, rfl, ?_⟩
        have hS3 := hS2.same s
        cases b with
        | false =>
          rw [if_neg (by simp)]
          exact h2 m2 H' _ (.same s) hS3 rfl
        | true =>
          rw [if_pos rfl]
          dsimp only at h2
          refine tG_bind hS3 ((Ext.same s).relE hE2) (EndG.ext (.same s) h2) fun d3 S3 m3 H3 v3 x3 hS3' hE3 r3 h3 eq3 => ?_
          cases d3 with
          | ref l => exact h3.elim
          | exc c fs => exact h3.elim
          | p z =>
            dsimp only at h3
            cases hg : chB g y z with
            | none => rw [hg] at h3; exact h3.elim
            | some c =>
              rw [hg] at h3
              have hg' : g [y, z] = some (.bl c) := by
                unfold chB at hg
                split at hg
                · rename_i c q
                  cases hg
                  exact q
                · cases hg
              refine hv' H3 (Pr m3 B) [y, z] [v2, v3] _ _ (fun a p => hS3'.pr p) (RepDs.top (ds := [.p y, .p z]) hS3' ⟨v2, [v3], rfl, x3.repD ((Ext.same s).repD r2), v3, [], rfl, r3, rfl⟩ rfl) hg' (fun H4 u s4 rp => ?_) v2 v3 rfl
              exact h3 m3 H4 u (.same s4) (hS3'.same s4) rp
theorem de_chain {op op' : CmpOp} {r r' : R2} {f g : List P → Option P} {a b c : Expr} {i j k : IE} (ho : OpR X (compareOp op) r) (ho' : OpR X (compareOp op') r') (hv : OpV X.K (rOf2 r) f) (hv' : OpV X.K (rOf2 r') g) (ha : DE X cl W a (evE rn i)) (hb : DE X cl W b (evE rn j)) (hc : DE X cl W c (evE rn k)) (hm : lastMarks [op, op'] [b, c] = false) :
    DE X cl W (.Compare a [op, op'] [b, c] pos) (evE rn (.chain (chB f) (chB g) i j k)) := PE.imp (pe_chain ho ho' ha hb hc hm) fun σ H Q h => chain_of hv hv' h
theorem dt_chain {op op' : CmpOp} {r r' : R2} {f g : List P → Option P} {a b c : Expr} {i j k : IE} (ho : OpR X (compareOp op) r) (ho' : OpR X (compareOp op') r') (hv : OpV X.K (rOf2 r) f) (hv' : OpV X.K (rOf2 r') g) (ha : DE X cl W a (evE rn i)) (hb : DE X cl W b (evE rn j)) (hc : DE X cl W c (evE rn k)) (hm : lastMarks [op, op'] [b, c] = false) :
    DT X cl W (.Compare a [op, op'] [b, c] pos) (evE rn (.chain (chB f) (chB g) i j k)) := PT.imp (pt_chain ho ho' ha hb hc hm) fun σ H Q h => chain_of hv hv' (test_of h)
/-! ### enumerate -/
theorem goes_enum {K : PySem.W.Frag} {a : Addr} {xs : List P} {v : V} (hv : v = .ref a) : Goes K (Ite K a) [.lst xs] [v] (enumL 0 xs) := by
  subst hv
  intro i H pr hp hr
  obtain ⟨w, s, e1, ⟨b, vs, e2, rd, rp⟩, e3⟩ := hr
  cases e1
  cases e2
  have hq : SqL K H a vs := .of rd
  refine ⟨fun x ex => ?_, fun hi => ⟨vs, hq, by rw [← rp.len]; simpa [enumL] using hi⟩⟩
  simp only [enumL, List.getElem?_map, List.getElem?_zipIdx, Option.map_map, Option.map_eq_some_iff, Nat.zero_add] at ex
  obtain ⟨y, ey, rfl⟩ := ex
  obtain ⟨u, eu, ru⟩ := rp.get ey
  refine ⟨⟨vs, u, hq, eu⟩, fun v' H' yl => ?_⟩
  obtain ⟨T, x', rfl, np, rfl, hy⟩ := yl
  have e := hy vs hq
  rw [eu] at e
  cases e
  have sm : Same H (upd H T (.tup [.int (i : Nat), u])) := Same.new np
  refine ⟨sm, ?_⟩
  refine ⟨T, [.int (i : Nat), u], rfl, ?_, ?_⟩
  · show (upd H T (.tup [.int (i : Nat), u])) T = some (.tup [.int (i : Nat), u])
    exact upd_same
  · exact Reps.cons_iff.mpr ⟨_, _, rfl, rfl, Reps.one (Rep.mono (fun a o n rd => ⟨sm _ _ rd, n⟩) (fun a u _ rd => sm _ _ rd) _ _ ru)⟩
theorem di_enum {l : Expr} {i : IE} {p tpos : Pos} {elts : List Expr} {kk : Nat} (hg : Gl X "enumerate") (hm : X.mg "enumerate" = none) (ha : DA X cl W [l] (evEs rn (.cons i .nil))) (hs : starEach [l] X.env = [(false, eval l X.env)]) :
    DI X cl W (.Tuple elts kk tpos) (.Call (.Name "enumerate" p) [l] [] pos) enumP (evEs rn (.cons i .nil)) :=
  PI.imp (pi_enum hg hm ha hs) fun σ H R h => by
    obtain ⟨m, B, e, S, hS, hE, h⟩ := h
    refine tG_bind hS hE h fun ds S1 m1 H1 vs x1 hS1 hE1 r1 h1 eq1 => ?_
    obtain ⟨xs, items, e1, e2, h2⟩ := items_open (rep := rD (kx X cl)) h1
    have rt := r1.top hS1 e1
    unfold enumP at e2
    split at e2
    · rename_i ys
      split at e2
      · rename_i hlen
        cases e2
        match vs, rt with
        | [v], rt =>
          obtain ⟨w', s', e3, ⟨a, us, e4, rd, rp⟩, e5⟩ := rt
          cases e3
          subst e4
          exact ⟨a, us, rfl, .of rd, h2 m1 H1 ([.ref a], Ite X.K a) .refl hS1 ⟨r1, goes_enum rfl, by rw [← line_eq]; simpa [enumL] using hlen⟩⟩
        | [], rt => obtain ⟨w', s', e3, _⟩ := rt; cases e3
        | _ :: _ :: _, rt => obtain ⟨w', s', e3, _, e5⟩ := rt; cases e3; cases e5
      · cases e2
    · cases e2
end
/-! ### insert -/
theorem om_insert {K : Kx} : OpM K (fun x vs H Q => ∃ (l : Addr) (xs : List V) (i : Int) (y : V), x = .ref l ∧ vs = [.int i, y] ∧ H l = some (.lst xs) ∧ xs.length < sizeLine ∧ 0 ≤ i ∧ i < 2 ^ 63 ∧ Q .non (upd H l (.lst (xs.take i.toNat ++ [y] ++ xs.drop i.toNat)))) "list" insertM := by
  intro H m B a o o' u ys ws y Q eu ru hT rys hg hq
  unfold insertM at hg
  split at hg
  · rename_i xs i z
    split at hg
    · rename_i hc
      cases hg
      obtain ⟨vs, rfl, rp⟩ := ru
      obtain ⟨v, s, rfl, rv, rs⟩ := Reps.cons_iff.mp rys
      cases rv
      obtain ⟨v, s, rfl, rv, rs⟩ := Reps.cons_iff.mp rs
      rw [Reps.nil_iff] at rs
      subst rs
      refine ⟨a, vs, i, v, rfl, rfl, eu, by rw [← rp.len, ← line_eq]; exact hc.1, hc.2.1, by have := hc.2.2; omega, ?_⟩
      exact hq _ _ ⟨_, rfl, ((rp.take _).append (Reps.one rv)).append (rp.drop _)⟩ rfl
    · cases hg
  · cases hg
theorem insertM_ty : ∀ o ys o' y, insertM o ys = some (o', y) → ∃ x, oval o = some x ∧ isTy "list" x = true := by
  intro o ys o' y h
  unfold insertM at h
  split at h
  · exact ⟨_, rfl, by simp [isTy]⟩
  · cases h
end DL

set_option maxRecDepth 100000
set_option maxHeartbeats 1000000
/-! DXa: tuples displayed, of any things -/
namespace DL
open PySem PySem.Spec PyProof.Rows L2
section
variable {X : Cx} {cl : Cls_} {W : WX} {rn : Rn} {w : Nat} {pos : Pos}
def tTupF (t : TA) : TE := fun σ H Q => t σ H fun xs H1 => xs.length ≤ sizeLine ∧ ((∀ p, H1 p = none → Q (.ref p) (upd H1 p (.tup xs))) ∨ (∀ (p : Addr) (o : Obj), H1 p = none → o.dict = none → Q (.ref p) (upd H1 p (.frz o (.tup xs)))))
theorem pe_tupF {es : List Expr} {t : TA} {x1} (h : PA X es t) : PE X (.Tuple es x1 pos) (tTupF t) := by
  refine ⟨fun pins s σ H Q I hq => ?_⟩
  refine wpAny_Tuple_spliced (thn (h.run pos pins s σ H _ I hq) fun us s1 ⟨xs, H1, I1, r, z, q⟩ => ⟨by rw [← r.length]; exact z, ?_⟩)
  have hf : H1 s1.heap.objs.size = none := I1.hok.fresh (Nat.le_refl _)
  rcases q with q | q
  · refine ⟨.ref s1.heap.objs.size, upd H1 s1.heap.objs.size (.tup xs), I1.laid (t' := s1.toks) (fun b u e => Heap.get?_push_of_some _ e) (Nat.le_refl _) ?_, rfl, q _ hf⟩
    exact ⟨z, us, r, ⟨_, Heap.get?_push_size _ rfl, rfl, _, rfl⟩⟩
  · refine ⟨.ref s1.heap.objs.size, upd H1 s1.heap.objs.size (.frz { cls := .type "tuple", data := .seq us.toArray } (.tup xs)), I1.laid (o := .frz { cls := .type "tuple", data := .seq us.toArray } (.tup xs)) (t' := s1.toks) (fun b u e => Heap.get?_push_of_some _ e) (Nat.le_refl _) ?_, rfl, q _ _ hf rfl⟩
    exact ⟨Heap.get?_push_size _ rfl, z, us, r, IsTup.new _ _⟩
theorem de_tupF {es : List Expr} {is : IEs} {x1 : Nat} (h : DA X cl W es (evEs rn is)) (hl : is.len ≤ 1000) : DE X cl W (.Tuple es x1 pos) (evE rn (.pk tupQ is)) :=
  PE.imp (pe_tupF h) fun σ H Q h => by
    obtain ⟨m, B, e, S, hS, hE, h⟩ := h
    rw [ev_pk] at h
    refine tG_bind hS hE h fun ds S1 m1 H1 vs x1 hS1 hE1 r1 h1 eq1 => ⟨Nat.le_trans (by rw [← RepDs.len r1, evEs_len eq1]; exact hl) (Nat.le_of_lt (small1000 (Nat.le_refl _))), ?_⟩
    obtain ⟨xs, y, e1, e2, rs, h2⟩ := pk_end r1 h1
    unfold tupQ at e2
    cases e2
    cases hb : isPairs xs with
    | false => exact .inl fun p np => h2 m1 _ (.ref p) (.same (Same.new np)) (hS1.same (Same.new np)) ⟨p, vs, rfl, by rw [hb]; exact upd_same, (Ext.same (Same.new np)).reps rs⟩
    | true => exact .inr fun p o np hd => h2 m1 _ (.ref p) (.same (Same.new np)) (hS1.same (Same.new np)) ⟨p, vs, rfl, by rw [hb]; exact ⟨o, upd_same, hd⟩, (Ext.same (Same.new np)).reps rs⟩
end
end DL

set_option maxRecDepth 100000
set_option maxHeartbeats 1000000
/-! DXb: d.get, {k: v}, list(d), xs.index -/
namespace DL
open PySem PySem.Spec PyProof.Rows L2
section
variable {K : PySem.W.Frag} {H : Hp} {pr : Addr → Prop}
theorem dget_opt {a : Addr} {ks vs : List P} {ws : List V} {u : HO} {k : P} {y : V} (hr : Rd H a u) (d : DicO ks ws u) (rp : Reps K H pr vs ws) (hk : isKeyP k = true) (hks : ks.all (fun j => isTupP j == isTupP k) = true) (hne : ks ≠ []) (ry : Rep K H pr k y) : ∃ o, DGet H a y o ∧ Rep K H pr ((lookP k ks vs).getD .non) (o.getD .non) := by
  cases hz : lookP k ks vs with
  | some z =>
    obtain ⟨v, h1, h2⟩ := dget_rep hr d rp hk ry hz
    exact ⟨some v, h1, h2⟩
  | none =>
    have hl : ks.length = vs.length := d.1.trans rp.len.symm
    obtain ⟨j, r, rfl⟩ : ∃ j r, ks = j :: r := by
      cases ks with
      | nil => exact absurd rfl hne
      | cons j r => exact ⟨j, r, rfl⟩
    have hj := List.all_eq_true.mp hks j List.mem_cons_self
    cases ht : isTupP k with
    | false =>
      obtain ⟨c, ec⟩ := atom_key hk ht
      rcases d.2 with ⟨kk, e, rfl⟩ | ⟨kk, e, rfl⟩
      · have q2 := (look_val (f := keyP) (fun a b => keyP_inj a b) ec (keysP_paired e) rp hl).2 hz
        exact ⟨none, .inl ⟨_, c, hr, key_rep ec ry, q2.symm⟩, rfl⟩
      · obtain ⟨c', e'⟩ := paired_mem (keysT_paired e) j List.mem_cons_self
        rw [keyT_tup e', ht] at hj
        cases hj
    | true =>
      obtain ⟨xs, kk', rfl, ec, e2⟩ := tup_key hk ht
      obtain ⟨b, us, rfl, eb, ru⟩ := ry
      rw [atoms_np hk] at eb
      have eb : H b = some (.tup us) := eb
      rcases d.2 with ⟨kk, e, rfl⟩ | ⟨kk, e, rfl⟩
      · obtain ⟨c', e'⟩ := paired_mem (keysP_paired e) j List.mem_cons_self
        rw [keyP_tup e', ht] at hj
        cases hj
      · have q2 := (look_val (f := keyT) (fun a b => keyT_inj a b) ec (keysT_paired e) rp hl).2 hz
        exact ⟨none, .inr ⟨_, kk', b, hr, rfl, by rw [eb, keys_reps e2 ru], q2.symm⟩, rfl⟩
theorem isD_of {a : Addr} {ks : List P} {ws : List V} {u : HO} (hr : Rd H a u) (d : DicO ks ws u) : IsD H a := by
  rcases d.2 with ⟨kk, e, rfl⟩ | ⟨kk, e, rfl⟩
  · exact .inl ⟨_, hr⟩
  · exact .inr ⟨_, hr⟩
end
section
variable {X : Cx} {cl : Cls_} {W : WX} {rn : Rn} {w : Nat} {pos : Pos}
theorem de_get1 {o a : Expr} {i j : IE} {apos : Pos} (hu : X.A.units + 1 < cLine) (ho : DE X cl W o (evE rn i)) (ha : DE X cl W a (evE rn j)) (mm : M1 X o "get" apos a pos) :
    DE X cl W (.Call (.Attribute o "get" apos) [a] [] pos) (evE rn (.meth (isTy "dict") getP i (.cons j .nil))) := PE.imp (pe_dget1 hu ho ha mm) fun σ H Q h => by
  obtain ⟨m, B, e, S, hS, hE, h⟩ := h
  rw [ev_meth] at h
  refine tG_bind hS hE h fun d S1 m1 H1 v x1 hS1 hE1 r1 h1 eq1 => ?_
  obtain ⟨x, q, t, h1⟩ := mt_open h1
  obtain ⟨ks, xs, rfl⟩ : ∃ ks xs, x = .dic ks xs := by
    cases x <;> simp [isTy] at t
    exact ⟨_, _, rfl⟩
  obtain ⟨ad, vs, u, rfl, rd, dd, rp⟩ := r1.top hS1 q
  refine ⟨ad, rfl, isD_of rd dd, ?_⟩
  simp only [evEs, R.bind_assoc, R.bind_ok] at h1
  refine tG_bind hS1 hE1 h1 fun d2 S2 m2 H2 v2 x2 hS2 hE2 r2 h2 eq2 => ?_
  unfold opK at h2
  cases q2 : vals S2 [d, d2] with
  | none => rw [q2] at h2; exact h2.elim
  | some ys =>
    rw [q2] at h2
    dsimp only at h2
    have rt := RepDs.top (ds := [d, d2]) hS2 ⟨_, _, rfl, x2.repD r1, _, _, rfl, r2, rfl⟩ q2
    cases q3 : getP ys with
    | none => rw [q3] at h2; exact h2.elim
    | some y =>
      rw [q3] at h2
      unfold getP at q3
      split at q3
      · rename_i ks' vs' k
        split at q3
        · rename_i hc
          cases q3
          simp only [Bool.and_eq_true, Bool.not_eq_true', List.isEmpty_eq_false_iff] at hc
          obtain ⟨w1, s1, e1, rt1, rt2⟩ := rt
          cases e1
          obtain ⟨w2, s2, e2, rt2, _⟩ := rt2
          cases e2
          obtain ⟨ad', vs2, u', e3, rd', dd', rp'⟩ := rt1
          cases e3
          have rk : Rep X.K H2 (Pr m2 B) k v2 := by
            cases k <;> first | exact rt2 | (have := hc.1.1; cases this)
          obtain ⟨oo, g, ro⟩ := dget_opt rd' dd' rp' hc.1.1 hc.1.2 hc.2 rk
          exact ⟨oo, g, h2 m2 H2 _ .refl hS2 ro⟩
        · cases q3
      · cases q3
end
/-! ### list(d) -/
section
variable {K : PySem.W.Frag} {H : Hp} {pr : Addr → Prop}
theorem okAtom_key {k : P} (h : okAtom k = true) : ∃ c, keyP k = some c ∧ Rep K H pr k (kV c) := by
  cases k <;> first | cases h | skip
  · exact ⟨_, rfl, rfl⟩
  · exact ⟨_, rfl, rfl, okS_of h⟩
theorem keys_rep : ∀ {ks : List P} {kk : List Key}, ks.all okAtom = true → keysP ks = some kk → Reps K H pr ks (kk.map kV)
  | [], kk, _, e => by cases e; exact Reps.nil_iff.mpr rfl
  | k :: r, kk, h, e => by
    rw [List.all_cons, Bool.and_eq_true] at h
    obtain ⟨c, e1, rk⟩ := okAtom_key (K := K) (H := H) (pr := pr) h.1
    unfold keysP at e
    rw [e1] at e
    cases e2 : keysP r with
    | none => rw [e2] at e; cases e
    | some cs =>
      rw [e2] at e
      cases e
      exact Reps.cons_iff.mpr ⟨_, _, rfl, rk, keys_rep h.2 e2⟩
theorem keysP_len : ∀ {ks : List P} {kk : List Key}, keysP ks = some kk → kk.length = ks.length
  | [], kk, e => by cases e; rfl
  | k :: r, kk, e => by
    unfold keysP at e
    cases e1 : keyP k with
    | none => rw [e1] at e; cases e
    | some c =>
      cases e2 : keysP r with
      | none => rw [e1, e2] at e; cases e
      | some cs =>
        rw [e1, e2] at e
        cases e
        simp [keysP_len e2]
theorem of_listD : OpF K (fun xs H Q => ∃ (a : Addr) (kvs : List (Key × V)), xs = [.ref a] ∧ Rd H a (.dK kvs) ∧ ∀ p, H p = none → Q (.ref p) (upd H p (.lst (kvs.map fun kv => kV kv.1)))) listD := by
  intro H pr xs vs y Q hp hr hf hq
  unfold listD at hf
  split at hf
  · rename_i ks xs'
    split at hf
    · rename_i hc
      cases hf
      simp only [Bool.and_eq_true, Bool.not_eq_true', List.isEmpty_eq_false_iff] at hc
      obtain ⟨v, rfl, r1⟩ := repTs1 hr
      obtain ⟨a, ws, u, rfl, rd, d, rp⟩ := r1
      rcases d.2 with ⟨kk, e, rfl⟩ | ⟨kk, e, rfl⟩
      · have hl := keysP_len e
        have hl2 := d.1
        have e1 : (kk.zip ws).map (fun kv => kV kv.1) = kk.map kV := by
          rw [show (fun kv : Key × V => kV kv.1) = kV ∘ Prod.fst from rfl, ← List.map_map, List.map_fst_zip (by omega)]
        refine ⟨a, kk.zip ws, rfl, rd, fun l nl => ?_⟩
        rw [e1]
        exact hq.lst (keys_rep hc.2 e) nl
      · cases ks with
        | nil => exact absurd rfl hc.1
        | cons j r =>
          obtain ⟨c', e'⟩ := paired_mem (keysT_paired e) j List.mem_cons_self
          rw [List.all_cons, Bool.and_eq_true] at hc
          obtain ⟨c, e2, _⟩ := okAtom_key (K := K) (H := H) (pr := pr) hc.2.1
          have h1 := keyT_tup e'
          rw [keyP_tup e2] at h1
          cases h1
    · cases hf
  · cases hf
theorem listD_lst : ∀ xs y, listD xs = some y → (∃ xs, y = .lst xs) ∨ (∃ ks xs, y = .dic ks xs) := by
  intro xs y h
  unfold listD at h
  split at h
  · split at h
    · cases h; exact .inl ⟨_, rfl⟩
    · cases h
  · cases h
end
/-! ### {k: v} -/
section
variable {X : Cx} {cl : Cls_} {W : WX} {rn : Rn} {w : Nat} {pos : Pos}
theorem XR.lessB {K : PySem.W.Frag} {cl : Cls_} {H : Hp} {m : Mp} {B B' : Addr → Prop} {c : Nat} {fs : List P} {cls : Value} {dd : Option Addr} (h : XR K cl H m B c fs cls dd) (hb : ∀ a, B' a → B a) : XR K cl H m B' c fs cls dd := by
  obtain ⟨C, names, e1, e2, q⟩ := h
  exact ⟨C, names, e1, e2, q.less fun a z => z.elim .inl fun z => .inr (hb a z)⟩
theorem EndG.lift0 {K : Kx} {m m1 : Mp} {B : Addr → Prop} {σ : L2.St} {H H0 : Hp} {p : Addr} {c : Nat} {fs : List P} {S : Store} (x : Ext m H m1 H0)
    (h : ∀ m' H' cls dd, Ext m H m' H' → RelS K m' B S H' → XR K cl H' m' B c fs cls dd → W cls dd σ H') : ∀ m' H' cls dd, Ext m1 H0 m' H' → RelS K m' (fun a => B a ∨ a = p) S H' → XR K cl H' m' (fun a => B a ∨ a = p) c fs cls dd → W cls dd σ H' :=
  fun m' H' cls dd x' rs xr => h m' H' cls dd (x.trans x') (rs.less fun a z => .inl z) (xr.lessB fun a z => .inl z)
theorem Ext.updnew {m m2 : Mp} {H H2 : Hp} {p : Addr} {u : HO} (x : Ext m H m2 H2) (np : H p = none) : Ext m H m2 (upd H2 p u) where
  len := x.len
  keep := x.keep
  obj := fun b o n r => by
    have hb : b ≠ p := fun z => by rw [z, np] at r; cases r
    obtain ⟨h1, h2⟩ := x.obj b o n r
    exact ⟨(upd_ne hb).trans h1, h2⟩
  tup := fun a w t r => by
    have hb : a ≠ p := fun z => by rw [z, np] at r; cases r
    exact (upd_ne hb).trans (x.tup a w t r)
  dom := fun a h => by
    by_cases z : a = p
    · subst z; rw [upd_same]; exact fun z => nomatch z
    · rw [upd_ne z]; exact x.dom a h
theorem fe_disp1 {k v : Expr} {i j : IE} (hk : DE X cl W k (evE rn i)) (hv : DE X cl W v (evE rn j)) : FE X cl W (.Dict [some k] [v] pos) (evE rn (.pk dispP (.cons i (.cons j .nil)))) :=
  PE.imp (pe_disp (pps_cons hk hv pps_nil) rfl rfl (by simp) (by simp)) fun σ H Q h => by
    obtain ⟨m, B, e, S, hS, hE, h⟩ := of_tF h
    rw [ev_pk] at h
    simp only [evEs, R.bind_assoc, R.bind_ok] at h
    intro p np
    have sm : Same H (upd H p (.dK [])) := Same.new np
    have e0 : (upd H p (.dK [])) p = some (.dK []) := upd_same
    have x0 : Ext m H m (upd H p (.dK [])) := .same sm
    have hS0 : RelS (kx X cl) m (fun a => B a ∨ a = p) S (upd H p (.dK [])) := hS.ban np sm (by rw [e0]; exact fun z => nomatch z)
    have hE0 : RelE (kx X cl) m (fun a => B a ∨ a = p) e σ (upd H p (.dK [])) := x0.relE (hE.ban np)
    refine ⟨m, _, e, S, hS0, hE0, ?_⟩
    cases q1 : evE rn i e S with
    | no => rw [q1] at h; exact h.elim
    | ex c fs S1 => rw [q1] at h; exact EndG.lift0 x0 h
    | ok d S1 =>
      rw [q1, R.bind_ok] at h
      intro m1 H1 x x1 hS1 r1
      refine ⟨m1, _, e, S1, hS1, x1.relE hE0, ?_⟩
      cases q2 : evE rn j e S1 with
      | no => rw [q2] at h; exact h.elim
      | ex c fs S2 => rw [q2] at h; exact EndG.lift0 (x0.trans x1) h
      | ok d2 S2 =>
        rw [q2, R.bind_ok] at h
        intro m2 H2 y x2 hS2 r2
        unfold pkK at h
        cases d with
        | ref l => exact h.elim
        | exc c fs => exact h.elim
        | p xk =>
          cases d2 with
          | ref l => exact h.elim
          | exc c fs => exact h.elim
          | p yv =>
            simp only [pures] at h
            by_cases ha : atomP xk = true
            · simp only [dispP, ha, if_true] at h
              have np2 : some p ∉ m2 := (hS2.bd p (.inr rfl)).2
              have np1 : some p ∉ m1 := (hS1.bd p (.inr rfl)).2
              have np0 : some p ∉ m := (hS0.bd p (.inr rfl)).2
              have ep : H2 p = some (.dK []) := (x2.obj p _ np1 (x1.obj p _ np0 e0).1).1
              obtain ⟨c, ec⟩ := atom_key (k := xk) (by cases xk <;> first | rfl | cases ha) (by cases xk <;> first | rfl | cases ha)
              have rk : RepD (kx X cl) H2 m2 (fun a => B a ∨ a = p) (.p xk) x := x2.repD r1
              have ekx : x = kV c := key_rep ec rk
              have am : Pr m2 (fun a => B a ∨ a = p) p := .inr (.inr rfl)
              have chg : Chg (.dK []) := .inr (.inl ⟨_, rfl⟩)
              have x3 : Ext m H m2 (upd H2 p (.dK [(c, y)])) := Ext.updnew ((x0.trans x1).trans x2) np
              have rs3 : RelS (kx X cl) m2 (fun a => B a ∨ a = p) S2 (upd H2 p (.dK [(c, y)])) :=
                { len := hS2.len, inj := hS2.inj, dead := hS2.dead
                  ob := fun i b ei => by
                    obtain ⟨o, q, q2⟩ := hS2.ob i b ei
                    obtain ⟨w, ew, rw_⟩ := repO_u q2
                    have n : b ≠ p := fun z => np2 (z ▸ List.mem_of_getElem? ei)
                    exact ⟨o, q, repU_o (rw_.put am chg ep) ((upd_ne n).trans ew)⟩
                  bd := fun a z => by
                    obtain ⟨h1, h2⟩ := hS2.bd a z
                    refine ⟨?_, h2⟩
                    by_cases n : a = p
                    · subst n
                      rw [upd_same]
                      exact fun z => nomatch z
                    · rw [upd_ne n]
                      exact h1 }
              have en : Ents X.K H2 (Pr m2 fun a => B a ∨ a = p) keyP [(xk, yv)] [(c, y)] := .cons ⟨ec, r2⟩ .nil
              have g := mono_put (u' := .dK [(c, y)]) am chg ep
              refine ⟨ep, [(c, y)], by rw [ekx]; rfl, by simp, ?_⟩
              exact h m2 _ p [y] (.dK [(c, y)]) x3 np rs3 upd_same (dicO_of en) (Reps.one (Rep.mono g.1 g.2 _ _ r2))
            · simp only [dispP, ha] at h
              exact h.elim
end
theorem room1 {k : Nat} {A : Around} (r : Room k A) : A.units + 1 < cLine := by have := r.un; omega
theorem room65 {k : Nat} {A : Around} (r : Room k A) : A.units + 65 < cLine := by have := r.un; omega
/-! ### xs.index(y) -/
section
variable {K : PySem.W.Frag}
theorem toPys_get : ∀ (ys : List P) (i : Nat), (toPys ys)[i]? = ys[i]?.map toPy
  | [], i => by simp [toPys]
  | y :: r, 0 => by simp [toPys]
  | y :: r, i + 1 => by simp [toPys, toPys_get r i]
theorem shps_at {n : Nat} : ∀ {ys : List P}, P.shps n ys = true → ∀ {i : Nat} {y : P}, ys[i]? = some y → y.shp n = true
  | [], _, i, y, h => by simp at h
  | z :: r, h, 0, y, e => by
    simp only [P.shps, Bool.and_eq_true] at h
    simp at e
    subst e
    exact h.1
  | z :: r, h, i + 1, y, e => by
    simp only [P.shps, Bool.and_eq_true] at h
    exact shps_at h.2 (by simpa using e)
theorem ov_index : OpV K (rOfM (rIndexD K)) indexP := by
  intro H pr xs vs y Q hp hr hf hq
  unfold indexP at hf
  split at hf
  · rename_i ys x
    split at hf
    · rename_i hc
      rw [Bool.and_eq_true] at hc
      cases hi : ys.findIdx? fun y => P.eqv y x with
      | none => rw [hi] at hf; cases hf
      | some j =>
        rw [hi] at hf
        cases hf
        obtain ⟨w1, s1, rfl, r1, rt2⟩ := hr
        obtain ⟨w2, s2, rfl, r2, e3⟩ := rt2
        subst e3
        have h60 := shp_mono 59 x hc.1
        have hl : P.shp 60 (.lst ys) = true := hc.2
        obtain ⟨d1, c1⟩ := dp_top h60 r2
        obtain ⟨d2, c2⟩ := dp_top hl r1
        have e2 : toPy (.lst ys) = .list (toPys ys) := rfl
        rw [e2] at d2
        obtain ⟨hj, h1, h2⟩ := List.findIdx?_eq_some_iff_getElem.mp hi
        obtain ⟨a, us, ea, rd, rp⟩ := (show RepT K H pr (.lst ys) w1 from r1)
        subst ea
        intro v ws e
        cases e
        refine ⟨a, w2, toPy x, toPys ys, j, toPy ys[j], rfl, rfl, d2, d1, e2 ▸ shaped_of hl c2, shaped_of h60 c1, ?_, ?_, ?_, hq H _ (Same.refl _) rfl⟩
        · rw [toPys_get, List.getElem?_eq_getElem hj]
          rfl
        · rw [eqv_py 59 ys[j] x (shps_at hc.2 (List.getElem?_eq_getElem hj)) hc.1]
          exact h1
        · intro m z' hm hz
          rw [toPys_get, List.getElem?_eq_getElem (by omega)] at hz
          cases hz
          rw [eqv_py 59 ys[m] x (shps_at hc.2 (List.getElem?_eq_getElem (by omega))) hc.1]
          simpa using h2 m hm
    · cases hf
  · cases hf
end
end DL

set_option maxRecDepth 100000
set_option maxHeartbeats 1000000
/-! ### x in a tuple of texts -/
namespace DL
open PySem PySem.Spec PyProof.Rows L2
/-- one text in some -/
def strInP (x : List Nat) : List P → Option Bool
  | [] => some false
  | .str z :: r => match strInP x r with
    | some b => some (decide (z = x) || b)
    | none => none
  | _ :: _ => none
def inT : List P → Option P
  | [.str x, .tup ys] => (strInP x ys).map .bl
  | _ => none
section
variable {K : PySem.W.Frag} {H : Hp} {pr : Addr → Prop}
theorem strIn_reps {x : List Nat} : ∀ {ys : List P} {vs : List V} {b : Bool}, strInP x ys = some b → Reps K H pr ys vs → vs.all flatV = true ∧ inV (.str (strV x)) vs = b
  | [], vs, b, h, r => by
    rw [Reps.nil_iff.mp r]
    cases h
    exact ⟨rfl, rfl⟩
  | y :: r, vs, b, h, hr => by
    obtain ⟨v, s, rfl, r1, r2⟩ := hr
    unfold strInP at h
    split at h
    · rename_i e
      cases e
    · rename_i z r' e
      cases e
      split at h
      · rename_i b' e2
        cases h
        obtain ⟨h1, h2⟩ := strIn_reps e2 r2
        obtain ⟨rfl, _⟩ := r1
        refine ⟨by rw [List.all_cons, h1]; rfl, ?_⟩
        show (strV z == strV x || inV (.str (strV x)) s) = _
        rw [strV_inj, h2]
      · cases h
    · cases h
theorem ov_inT : OpV K (rOf2 (rIn K false)) inT := .two (fun H pr x y v w z Q hp r1 r2 hf hq => by
  unfold inT at hf
  split at hf
  · rename_i x' ys e
    cases e
    cases hb : strInP x' ys with
    | none => rw [hb] at hf; cases hf
    | some b =>
      rw [hb] at hf
      cases hf
      obtain ⟨a, vs, rfl, ht, rs⟩ := r2
      obtain ⟨rfl, _⟩ := r1
      obtain ⟨h1, h2⟩ := strIn_reps hb rs
      refine ⟨a, vs, rfl, .inr (.inl ht.rd), rfl, h1, ?_⟩
      have := hq H (.bl b) (Same.refl _) rfl
      rw [← h2] at this
      exact this
  · cases hf) fun xs z hf => by
  unfold inT at hf
  split at hf
  · exact ⟨_, _, rfl⟩
  · cases hf
end
end DL

set_option maxRecDepth 100000
set_option maxHeartbeats 1000000
/-! ### a name's object no longer its own (no statement runs) -/
namespace DL
open PySem PySem.Spec PyProof.Rows L2
section
variable {X : Cx} {cl : Cls_} {W : WX} {rn : Rn} {w : Nat}
theorem set_same {α : Type} {xs : List α} {i : Nat} {x : α} (h : xs[i]? = some x) : xs.set i x = xs := by
  apply List.ext_getElem?
  intro j
  by_cases c : i = j
  · subst c
    rw [List.getElem?_set_self (List.getElem?_eq_some_iff.mp h).1, h]
  · rw [List.getElem?_set_ne c]
theorem frz_rel {K : Kx} {m : Mp} {B : Addr → Prop} {S : Store} {H : Hp} {d : D} {v : V} (hS : RelS K m B S H) (r1 : RepD K H m B d v) {r : R D} (hr : frzD S d S = r) : r = .no ∨ ∃ d2 S2 m2, r = .ok d2 S2 ∧ Ext m H m2 H ∧ RelS K m2 B S2 H ∧ RepD K H m2 B d2 v := by
  subst hr
  cases d with
  | p x => exact .inr ⟨_, _, m, rfl, .refl, hS, r1⟩
  | exc c fs => exact .inl rfl
  | ref l =>
    have r1' : RepD K H m B (.ref l) v := r1
    dsimp only [RepD] at r1'
    cases z1 : m[l]? with
    | none => rw [z1] at r1'; exact r1'.elim
    | some y =>
      rw [z1] at r1'
      cases y with
      | none =>
        left
        simp only [frzD, hS.dead l z1]
      | some b =>
        subst r1'
        obtain ⟨o, q3, q4⟩ := hS.ob l b z1
        have nB : ¬ B b := fun w => (hS.bd b w).2 (List.mem_of_getElem? z1)
        simp only [frzD, q3]
        cases o with
        | lst xs =>
          obtain ⟨ws, ee, g⟩ := q4
          obtain ⟨m2, x2, r2, p2, n2⟩ := gone_rel hS .refl hS z1 nB
          exact .inr ⟨_, _, m2, rfl, x2, r2, b, ws, rfl, n2, ee, g.less p2⟩
        | dic kvs =>
          obtain ⟨ws, u, ee, d, g⟩ := q4
          obtain ⟨m2, x2, r2, p2, n2⟩ := gone_rel hS .refl hS z1 nB
          exact .inr ⟨_, _, m2, rfl, x2, r2, b, ws, u, rfl, n2, .inl ee, d, g.less p2⟩
        | dir kvs =>
          obtain ⟨ws, u, ee, d, g⟩ := q4
          dsimp only
          cases q5 : freezeR S kvs with
          | none => first | exact .inl rfl | exact .inl trivial
          | some vs =>
            obtain ⟨m2, x2, r2, p2, s2, n2⟩ := kill_many b (kvs := kvs) (hS.kill l)
            have n3 : ∀ p ∈ kvs, ∀ c, m[p.2]? = some (some c) → some c ∉ m2 := fun p hp c ec w => by
              by_cases hl : l = p.2
              · exact nomem_kill hS (l := l) (by rw [hl]; exact ec) (s2 c w)
              · exact n2 p hp c (by rw [List.getElem?_set_ne hl]; exact ec) w
            refine .inr ⟨_, _, m2, rfl, (Ext.kill).trans x2, r2, b, ws, u, rfl, fun w => w.elim (fun w => nomem_kill hS z1 (s2 b w)) nB, .inl ee, d, ?_⟩
            exact frz_vals hS (fun c w => Pr.kill c (p2 c w)) g q5 n3
        | dead => first | exact .inl rfl | exact .inl trivial
theorem dss_frz (i : Nat) {l : List Stmt} {is : ISs} (h : DSs X cl W l (evSs rn w is)) : DSs X cl W l (evSs rn w (.cons (.asg (.one i) (.frz (.v i))) is)) := PSs.imp h fun D σ H h => by
  obtain ⟨m, B, e, S, hS, hE, h⟩ := h
  simp only [evSs, evS, assignTg, evE] at h
  cases z : e[i]? with
  | none => rw [z] at h; exact h.elim
  | some o =>
    cases o with
    | none => rw [z] at h; exact h.elim
    | some d =>
      rw [z] at h
      obtain ⟨v, hv, r1⟩ := hE.at_ i d z
      have hσ : σ.set i (some v) = σ := set_same hv
      simp only [R.bind_ok] at h
      rcases frz_rel hS r1 rfl with e0 | ⟨d2, S2, m2, e0, x2, r2, r3⟩
      · rw [e0] at h
        exact h.elim
      · rw [e0] at h
        refine ⟨m2, B, e.set i (some d2), S2, r2, ?_, EndS.ext x2 h⟩
        have := (x2.relE hE).set r3 i
        rwa [hσ] at this
end
end DL

set_option maxRecDepth 100000
set_option maxHeartbeats 1000000
/-! DXf: exceptions: raise, try, what is asked of a caught one -/
namespace DL
open PySem PySem.Spec PyProof.Rows L2
/-! ### the exception that is handled -/
/-- p's object is the exception h -/
structure HandAt (tab : Nat → Option (Addr × List Str)) (h : Hand) (p : Addr × Obj) : Prop where
  a : p.1 = h.a
  c : ∃ C, tab h.c = some (C, h.names) ∧ L2N.Zn (.ref C) h.d p.2
  f : ∃ vs, p.2.data = .fields vs
/-- the context holds the exception that cl speaks of -/
structure HotX_ (X : Cx) (cl : Cls_) : Prop where
  ex : ∃ h p, cl.hd = some h ∧ HandAt cl.tab h p ∧ L2H.Hot1 X.A p ∧ p ∈ X.pn
theorem HotX_.hot {X : Cx} {cl : Cls_} (h : HotX_ X cl) : L2H.HotC X := by
  obtain ⟨_, p, _, _, a, b⟩ := h.ex
  exact ⟨p, a, b⟩
def Cls_.hot (cl : Cls_) (h : Hand) : Cls_ := ⟨cl.tab, some h⟩

/-! ### defs that are called where an exception is handled -/
/-- what such a def promises; ok: what is known of the exception's object -/
structure FnE (P : Program) (w : World) (K : PySem.W.Frag) (mg : Str → Option Value) (base : Heap) (CX : CXT) (k : Nat) (f : Addr) (fd : FuncData) (ps : List Str) (ok : Addr × Obj → Prop) (sp : Sp) : Prop where
  len : ∀ vs H Q E, sp vs H Q E → vs.length = ps.length
  run : ∀ (p : Addr × Obj), ok p → ∀ (A : Around) (outer : List PySem.Env) (s : Shared) (H : Hp) (args : Args) (us : List Value) (vs : List V) (Q : VK) (E : XK), L2H.RoomH k A → L2H.Hot1 A p → L2H.PinOk outer H s p → Env0 P w K mg base A outer s H →
    BindsTo s fd args (ps.zip us) → Vals vs us → sp vs H Q E → codeAny (model P w) A (.call (.ref f) args) (CR CX outer P w H s Q E) s
section
variable {CX : CXT} {P : Program} {w : World} {K : PySem.W.Frag} {mg : Str → Option Value} {base : Heap} {k : Nat} {f : Addr} {ok : Addr × Obj → Prop} {sp : Sp} {N ps : List Str}
theorem fne_of {x qual : Str} {st : Stmt} {fd : FuncData} (F : Fun K x qual st f fd) (S : FnScope N ps (defScope st)) (len : ∀ vs H Q E, sp vs H Q E → vs.length = ps.length)
    (body : ∀ (cdv : Value) (A : Around) (outer : List PySem.Env) (s : Shared) (H : Hp) (vs : List V) (Q : VK) (E : XK) (p : Addr × Obj), ok p → L2H.Hot1 A p → L2H.RoomH k (A.deeper (envOfC qual (defScope st) s.heap.objs.size f cdv)) → sp vs H Q E →
      ∃ t, PSs (L2H.cxH CX P w K mg base N qual (defScope st) f cdv A outer s H E p) (defBody st) t ∧ t { nx := fun _ H' => Q .non H', rt := Q } (L2.start N vs) H) :
    FnE P w K mg base CX (k + 1) f fd ps ok sp := by
  obtain ⟨oc, od, kV, doc, pm, an, cdv, ct, osl, rfl, lk, code⟩ := F.ex
  constructor
  · exact len
  intro p okp A outer s H args us vs Q E room hot pin env bound vals wish
  have inK : K.In s.heap := env.mod.kin.keeps fun b o q => (env.bs b o q).1
  have free : s.heap.NoLimit := env.mod.nolimit.keeps fun b o q => (env.bs b o q).1
  have kinds : ∀ y ∈ ps.zip us, (defScope st).names.lookup y.1 = some .local ∨ ((defScope st).names.lookup y.1 = some .cell ∧ ((cellsFrom (s.heap.objs.size + 1) (defScope st).names []).lookup y.1).isSome = true) := by
    rintro ⟨n, v⟩ hy
    exact (S.par n (List.of_mem_zip hy).1).elim .inl fun q => .inr ⟨q, PySem.W.cellsFrom_some _ _ _ (.inl q)⟩
  apply codeAny_call_function room.depth (inK _ _ lk) rfl S.co S.gen rfl (PySem.W.codeRec_of inK code)
  apply bound
  refine wpAny_newFunctionEnv_cells S.kind kinds ?_
  rintro env' rfl s1 inCall
  refine ⟨free.keeps inCall.toInCall.keep, codeAny_func ?_⟩
  obtain ⟨t, ht, start⟩ := body cdv A outer s H vs Q E p okp hot (room.deeper _) wish
  have inv := L2H.inv_startH (CX := CX) (E := E) S pin env (len _ _ _ _ wish) vals inCall
  refine wpAny_mono (ht.run [] s1 _ H _ inv start) (fun flow s' hs => ?_) fun e s' hs => hs
  cases flow with
  | ret u =>
    obtain ⟨v, σ', H', J, rv, q⟩ := hs
    exact ⟨v, H', J.os, J.bare, J.base, J.hok, rv, q⟩
  | next =>
    obtain ⟨σ', H', J, q⟩ := hs
    exact ⟨.non, H', J.os, J.bare, J.base, J.hok, rfl, q⟩
  | brk => exact hs.elim fun _ z => z.elim fun _ z => z.2.elim
  | cont => exact hs.elim fun _ z => z.elim fun _ z => z.2.elim
/-- .. by its body -/
theorem fne_okD {x qual : Str} {st : Stmt} {fd : FuncData} {n nv : Nat} {cl : Cls_} {h : Hand} {rn : Rn} {body : ISs} (F : Fun K x qual st f fd) (Sc : FnScope N ps (defScope st)) (hps : ps.length = n) (hN : N.length = n + nv)
    (hb : ∀ (cdv : Value) (A : Around) (outer : List PySem.Env) (s : Shared) (H : Hp) (E : XK) (p : Addr × Obj), L2H.RoomH k (A.deeper (envOfC qual (defScope st) s.heap.objs.size f cdv)) →
      HotX_ (L2H.cxH (L2N.CX P w) P w K mg base N qual (defScope st) f cdv A outer s H E p) (cl.hot h) →
      DSs (L2H.cxH (L2N.CX P w) P w K mg base N qual (defScope st) f cdv A outer s H E p) (cl.hot h) (fun cls dd _ H' => E cls dd H') (defBody st) (evSs rn turnsMost body)) :
    FnE P w K mg base (L2N.CX P w) (k + 1) f fd ps (HandAt cl.tab h) (spD K (cl.hot h) n fun ds S => if ds.length = n then fin S (evSs rn turnsMost body (ds.map some ++ List.replicate nv none) S) else .no) := by
  refine fne_of F Sc (fun vs H Q E q => ?_) fun cdv A outer s H vs Q E p okp hot hr q => ?_
  · obtain ⟨m, B, S, ds, hS, rd, hl, _⟩ := q
    rw [← rd.len, hl, hps]
  · refine ⟨_, hb cdv A outer s H E p hr ⟨h, p, rfl, okp, hot, List.mem_cons_self⟩, ?_⟩
    obtain ⟨m, B, S, ds, hS, rd, hl, q⟩ := q
    dsimp only at q
    rw [if_pos hl] at q
    exact ⟨m, B, _, S, hS, relE_start rd (by rw [hN, hl]), fin_end hS q⟩
end
section
variable {X : Cx} {cl : Cls_} {W : WX} {rn : Rn} {w : Nat} {pos : Pos}
theorem de_callH {k n fid : Nat} {f : Addr} {fd : FuncData} {ps : List Str} {x : Str} {q : Pos} {a : Expr} {es : List Expr} {is : IEs} (hot : HotX_ X cl) (F : ∀ h, cl.hd = some h → FnE X.prog X.w X.K X.mg X.base (L2N.CX X.prog X.w) k f fd ps (HandAt cl.tab h) (spD X.K cl n (rn fid))) (hr : L2H.RoomH k X.A) (hg : Gl X x) (hm : X.mg x = some (.ref f))
    (hk : PySem.W.keepIn X.K (.ref f) = true) (hb : Binds X.K fd ps []) (tk : L2N.Takes X W) (ha : DA X cl W (a :: es) (evEs rn is)) (hn : is.len = n)
    (hdb : (x == ("__debug__" : Str)) = false) (he : starEach (a :: es) X.env = (false, eval a X.env) :: starEach es X.env) (hpl : (backTo pos (starEach es X.env)).any (·.1) = false) :
    DE X cl W (.Call (.Name x q) (a :: es) [] pos) (evE rn (.call fid is)) := by
  refine PE.imp (t := tCallS (spD X.K cl n (rn fid)) (WE W) (tG (kx X cl) cl W (rDs (kx X cl)) (evEs rn is))) ⟨fun pins s σ H Q I h => ?_⟩ fun σ H Q h => ?_
  · refine wpAny_Call_Name_kw (ld_glob I hg hm ?_ hdb)
    refine PySem.W.callWith_K (h₀ := X.base) I.ok.mod.kin hk (thn (ha.run pos pins s σ H _ I h) fun us s1 hh => ?_) he hpl
    obtain ⟨vs, H1, I1, rv, wish⟩ := hh
    refine ⟨I1.kIn, ?_⟩
    obtain ⟨hand, p, ehd, okp, hot1, hp⟩ := hot.ex
    have fn := F hand ehd
    have nps : (us ++ ([] : List Value)).length = ps.length := by rw [List.append_nil, ← rv.length]; exact fn.len _ _ _ _ wish
    have bound := hb s1 us I1.kIn nps
    rw [List.append_nil] at bound
    have pin := I1.pin p (List.mem_append_left _ hp)
    have pinned : L2H.PinOk X.stack H1 s1 p := by
      refine ⟨pin.1, pin.2.1, fun hm => ?_, pin.2.2.2.2⟩
      rcases List.mem_cons.mp (I1.stkSub p.1 hm) with z | z
      · exact pin.2.2.1 z
      · exact pin.2.2.2.1 z
    refine wpAny_call (codeAny_mono (fn.run p okp X.A X.stack s1 H1 _ us vs Q (WE W σ) hr hot1 pinned I1.env0 bound rv wish) fun r s' hq => ?_)
    cases r with
    | error e => exact L2N.passAt tk σ pins H1 s1 e s' I1 hq
    | ok fl =>
      cases fl with
      | ret u => exact I1.after hq
      | next => exact hq.elim
      | brk => exact hq.elim
      | cont => exact hq.elim
  · obtain ⟨m, B, e, S, hS, hE, h⟩ := h
    simp only [evE] at h
    refine tG_bind hS hE h fun ds S1 m1 H1 vs x1 hS1 hE1 r1 h1 eq1 => ?_
    exact ⟨m1, B, S1, ds, hS1, r1, by rw [evEs_len eq1, hn], h1.w fun cls dd H' z => z⟩
/-! ### isinstance(e, C), e.f -/
/-- isinstance(e, c): e the exception that the context holds, of the class D, its dict d -/
def rIsEH (K : PySem.W.Frag) (D a : Addr) (d : Option Addr) : List V → Hp → VK → Prop := fun xs H Q => ∃ (c : V) (cv : Value) (b : Bool), xs = [.ref a, c] ∧ (∀ u, RelV c u → u = cv) ∧ PySem.W.kitOne K (.ref D) cv = some b ∧ (d = none ∨ ∃ dd fv, d = some dd ∧ H dd = some (.xd fv)) ∧ Q (.bl b) H
theorem call_isEH {D : Addr} {p : Addr × Obj} {d : Option Addr} (C : ExcC X.K D) (hz : Zc (.ref D) d p.2) (hf : ∃ vs, p.2.data = .fields vs) (hp : p ∈ X.pn) : CallR X (.builtin "isinstance") (rIsEH X.K D p.1 d) := by
  intro pins s σ H xs us Q I r wish
  obtain ⟨c, cv, b, rfl, hcv, e, hd, q⟩ := wish
  obtain ⟨u1, u2, rfl, r1, r2⟩ := vals2 r
  obtain rfl : u1 = Value.ref p.1 := r1
  obtain rfl := hcv u2 r2
  have got := (I.pin p (List.mem_append_left _ hp)).1
  obtain ⟨vs, dat⟩ := hf
  obtain ⟨cdD, hcD, _⟩ := PySem.W.any_some C.hd
  have is : (PySem.W.clsIn X.K D).isSome = true := by rw [hcD]; rfl
  rcases hd with rfl | ⟨dd, fv, rfl, hx⟩
  · have J : PySem.W.InstAt s.heap p.1 p.2 D none := ⟨got, hz.1, by unfold PySem.W.notCls; rw [dat] <;> rfl, by rw [hz.2]; exact trivial⟩
    exact PySem.W.kia_one (PySem.W.kitx_exc is C.hg C.hk C.hs C.ha C.hn C.ht C.hm) I.kIn J e (fun z => nomatch z) fun tk => ⟨.bl b, H, I.kept (t' := tk) fun _ _ z => z, rfl, q⟩
  · obtain ⟨mA, hns, _⟩ := (show ObjOk X.prog X.w H s.heap dd (.xd fv) from I.hok dd _ hx)
    obtain ⟨od, ho, _⟩ := lookIn_ns hns
    have J : PySem.W.InstAt s.heap p.1 p.2 D (some od) := ⟨got, hz.1, by unfold PySem.W.notCls; rw [dat] <;> rfl, by rw [hz.2]; exact ho⟩
    exact PySem.W.kia_one (PySem.W.kitx_exc is C.hg C.hk C.hs C.ha C.hn C.ht C.hm) I.kIn J e (fun z => nomatch z) fun tk => ⟨.bl b, H, I.kept (t' := tk) fun _ _ z => z, rfl, q⟩
theorem isx_open {i : IE} {hits : Nat → Bool} {σ : L2.St} {H : Hp} {Q : VK} (h : tG (kx X cl) cl W (rD (kx X cl)) (evE rn (.isx hits i)) σ H Q) :
    tG (kx X cl) cl W (rD (kx X cl)) (evE rn i) σ H fun v H1 => ∃ hd : Hand, cl.hd = some hd ∧ v = .ref hd.a ∧ (hd.d = none ∨ ∃ dd fv, hd.d = some dd ∧ H1 dd = some (.xd fv)) ∧ Q (.bl (hits hd.c)) H1 := by
  obtain ⟨m, B, e, S, hS, hE, h⟩ := h
  simp only [evE] at h
  refine tG_bind hS hE h fun d S1 m1 H1 v x1 hS1 hE1 r1 h1 eq1 => ?_
  cases d with
  | p x => exact h1.elim
  | ref l => exact h1.elim
  | exc c fs =>
    obtain ⟨hd, e1, rfl, rfl, xf⟩ := r1
    refine ⟨hd, e1, rfl, ?_, EndG.here h1 hS1 rfl⟩
    rcases xf with ⟨_, _, z⟩ | ⟨d, fv, z1, z2, _⟩
    · exact .inl z
    · exact .inr ⟨d, fv, z1, z2⟩
/-- what the written part must say of the classes of exceptions, for isinstance -/
structure IsxOk (K : PySem.W.Frag) (cl : Cls_) (cv : Value) (hits : Nat → Bool) : Prop where
  ok : ∀ c D names, cl.tab c = some (D, names) → ExcC K D ∧ PySem.W.kitOne K (.ref D) cv = some (hits c)
theorem de_isx {a b : Expr} {i : IE} {hits : Nat → Bool} {p : Pos} {v : V} {cv : Value} (hot : HotX_ X cl) (ok : IsxOk X.K cl cv hits) (hg : Gl X "isinstance") (hm : X.mg "isinstance" = none) (ha : DE X cl W a (evE rn i)) (hb : PE X b (tC v)) (hv : ∀ u, RelV v u → u = cv)
    (he1 : starEach [a, b] X.env = (false, eval a X.env) :: starEach [b] X.env) (he2 : starEach [b] X.env = (false, eval b X.env) :: starEach [] X.env) (hpl : (backTo pos (starEach [b] X.env)).any (·.1) = false) :
    DE X cl W (.Call (.Name "isinstance" p) [a, b] [] pos) (evE rn (.isx hits i)) := by
  obtain ⟨hd, o, ehd, okp, hot1, hp⟩ := hot.ex
  obtain ⟨D, tabD, zn⟩ := okp.c
  obtain ⟨C, e⟩ := ok.ok hd.c D hd.names tabD
  refine PE.imp (pe_callB (call_isEH C zn.zc okp.f hp) hg hm (by decide +kernel) (pa_cons ha (pa_cons hb pa_nil he2) he1) (by decide) (by decide) he1 hpl) fun σ H Q h => ?_
  refine tG_mono (isx_open h) fun v1 H1 q => ?_
  obtain ⟨hd', e1, rfl, z, q⟩ := q
  rw [ehd] at e1
  cases e1
  exact ⟨v, cv, _, by rw [okp.a], hv, e, z, q⟩
/-! e.f -/
structure FldOk (K : PySem.W.Frag) (cl : Cls_) (f : Str) (g : Nat → Option Nat) : Prop where
  ok : ∀ c D names k, cl.tab c = some (D, names) → g c = some k → XfC K D ∧ PySem.W.findIn K (.ref D) f = some none ∧ ∀ (fv : List (Str × V)), fv.map (·.1) = names → fv.lookup f = (fv.map (·.2))[k]?
theorem fld_open {i : IE} {g : Nat → Option Nat} {f : Str} (ok : FldOk X.K cl f g) {D : Addr} {hd : Hand} (ehd : cl.hd = some hd) (tabD : cl.tab hd.c = some (D, hd.names)) {σ : L2.St} {H : Hp} {Q : VK} (h : tG (kx X cl) cl W (rD (kx X cl)) (evE rn (.fld g i)) σ H Q) :
    tG (kx X cl) cl W (rD (kx X cl)) (evE rn i) σ H fun v H1 => v = .ref hd.a ∧ XfC X.K D ∧ PySem.W.findIn X.K (.ref D) f = some none ∧ ∃ dd fv u, hd.d = some dd ∧ H1 dd = some (.xd fv) ∧ fv.lookup f = some u ∧ Q u H1 := by
  obtain ⟨m, B, e, S, hS, hE, h⟩ := h
  simp only [evE] at h
  refine tG_bind hS hE h fun d S1 m1 H1 v x1 hS1 hE1 r1 h1 eq1 => ?_
  cases d with
  | p x => exact h1.elim
  | ref l => exact h1.elim
  | exc c fs =>
    obtain ⟨hd', e1, rfl, rfl, xf⟩ := r1
    dsimp only [kx] at e1
    rw [ehd] at e1
    cases e1
    simp only [fldD] at h1
    cases hg : g hd.c with
    | none => rw [hg] at h1; exact h1.elim
    | some k =>
      rw [hg, Option.bind_some] at h1
      obtain ⟨T, no, lk⟩ := ok.ok hd.c D hd.names k tabD hg
      cases hk : fs[k]? with
      | none => rw [hk] at h1; exact h1.elim
      | some x =>
        rw [hk] at h1
        rcases xf with ⟨_, rfl, _⟩ | ⟨dd, fv, z1, z2, _, z4, z5⟩
        · simp at hk
        · obtain ⟨u, e2, ru⟩ := z5.get hk
          exact ⟨rfl, T, no, dd, fv, u, z1, z2, by rw [lk fv z4, e2], EndG.here h1 hS1 ru⟩
theorem de_fld {a : Expr} {i : IE} {g : Nat → Option Nat} {f : Str} (hot : HotX_ X cl) (ok : FldOk X.K cl f g) (ha : DE X cl W a (evE rn i)) (hb : attributeBase a f X.env (eval a X.env) = eval a X.env) : DE X cl W (.Attribute a f pos) (evE rn (.fld g i)) := by
  obtain ⟨hd, o, ehd, okp, hot1, hp⟩ := hot.ex
  obtain ⟨D, tabD, zn⟩ := okp.c
  refine ⟨fun pins s σ H Q I h => ?_⟩
  refine attr_of hb (thn (ha.run pins s σ H _ I (fld_open ok ehd tabD h)) fun u s1 hh => ?_)
  obtain ⟨v, H1, I1, rv, rfl, T, no, dd, fv, x, e1, e2, lk, q⟩ := hh
  obtain rfl : u = Value.ref hd.a := rv
  have got := (I1.pin o (List.mem_append_left _ hp)).1
  rw [okp.a] at got
  obtain ⟨vs, dat⟩ := okp.f
  obtain ⟨mA, hns, hr⟩ := (show ObjOk X.prog X.w H1 s1.heap dd (.xd fv) from I1.hok dd _ e2)
  obtain ⟨od, ho, hl⟩ := lookIn_ns hns
  obtain ⟨y, hy, ry⟩ := RelO.some_of (v := x) (o := mA f) (by rw [← lk]; exact hr f)
  have J : PySem.W.InstAt s1.heap hd.a o.2 D (some od) := ⟨got, zn.1, by unfold PySem.W.notCls; rw [dat] <;> rfl, by rw [zn.2.1, e1]; exact ho⟩
  exact HandSPX.exc_get I1.kIn J T.ga T.gg T.exC (PySem.W.findObj_own T.hdC no rfl (by rw [hl, hy])) (handed_of ry) ⟨x, H1, I1.tok _, ry, q⟩
/-! ### try -/
theorem RepD.hd {K K' : Kx} (e : K.k = K'.k) {H : Hp} {m : Mp} {B : Addr → Prop} : ∀ {d : D} {v : V}, (∀ c fs, d = .exc c fs → False) → RepD K H m B d v → RepD K' H m B d v
  | .p x, v, _, h => by
    dsimp only [RepD] at h ⊢
    rw [← e]
    exact h
  | .ref l, v, _, h => h
  | .exc c fs, v, n, h => (n c fs rfl).elim
theorem RelS.hd {K K' : Kx} (e : K.k = K'.k) {m : Mp} {B : Addr → Prop} {S : Store} {H : Hp} (r : RelS K m B S H) : RelS K' m B S H := ⟨r.len, r.inj, fun i a q => by
  obtain ⟨o, h1, h2⟩ := r.ob i a q
  refine ⟨o, h1, ?_⟩
  cases o with
  | lst xs =>
    dsimp only [RepO] at h2 ⊢
    rw [← e]
    exact h2
  | dic kvs =>
    dsimp only [RepO] at h2 ⊢
    rw [← e]
    exact h2
  | dir kvs =>
    obtain ⟨vs, u, q1, q2, q3⟩ := h2
    refine ⟨vs, u, q1, q2, ?_⟩
    have key : ∀ {kvs : List (P × Nat)} {vs : List V}, RepDs K H m B (kvs.map fun p => .ref p.2) vs → RepDs K' H m B (kvs.map fun p => .ref p.2) vs := by
      intro kvs
      induction kvs with
      | nil => exact fun r => r
      | cons p r ih =>
        intro vs r
        obtain ⟨v, s, rfl, a1, b1⟩ := r
        exact ⟨v, s, rfl, a1, ih b1⟩
    exact key q3
  | dead => exact h2, r.dead, r.bd⟩
def noExc (e : Env) : Prop := ∀ (i c : Nat) (fs : List P), e[i]? ≠ some (some (D.exc c fs))
theorem noExc_clear {e : Env} : noExc (clearX e) := by
  intro i c fs q
  unfold clearX at q
  rw [List.getElem?_map] at q
  cases z : e[i]? with
  | none => rw [z] at q; cases q
  | some a =>
    rw [z] at q
    cases a with
    | none => cases q
    | some d => cases d <;> cases q
theorem RelE.hd {K K' : Kx} (e : K.k = K'.k) {m : Mp} {B : Addr → Prop} {v : Env} {σ : L2.St} {H : Hp} (n : noExc v) (r : RelE K m B v σ H) : RelE K' m B v σ H := ⟨r.len, fun i d q => by
  obtain ⟨u, q1, q2⟩ := r.at_ i d q
  exact ⟨u, q1, q2.hd e fun c fs z => n i c fs (by rw [q, z])⟩⟩
/-- no exception is held here: the slots have none -/
theorem RelE.calm {K : Kx} (e : K.hd = none) {m : Mp} {B : Addr → Prop} {v : Env} {σ : L2.St} {H : Hp} (r : RelE K m B v σ H) : noExc v := by
  intro i c fs q
  obtain ⟨u, _, h, q2, _⟩ := r.at_ i _ q
  rw [e] at q2
  cases q2
theorem RelE.clearX {K : Kx} {m : Mp} {B : Addr → Prop} {v : Env} {σ : L2.St} {H : Hp} (r : RelE K m B v σ H) : RelE K m B (DL.clearX v) σ H := ⟨by unfold DL.clearX; simpa using r.len, fun i d q => by
  unfold DL.clearX at q
  rw [List.getElem?_map] at q
  cases z : v[i]? with
  | none => rw [z] at q; cases q
  | some a =>
    rw [z] at q
    cases a with
    | none => cases q
    | some d' =>
      cases d' with
      | exc c fs => cases q
      | p x => cases q; exact r.at_ i _ z
      | ref l => cases q; exact r.at_ i _ z⟩
theorem RelS.to {k : PySem.W.Frag} {h h' : Option Hand} {m : Mp} {B : Addr → Prop} {S : Store} {H : Hp} (r : RelS ⟨k, h⟩ m B S H) : RelS ⟨k, h'⟩ m B S H := RelS.hd (K := ⟨k, h⟩) (K' := ⟨k, h'⟩) rfl r
theorem RelE.to {k : PySem.W.Frag} {h h' : Option Hand} {m : Mp} {B : Addr → Prop} {v : Env} {σ : L2.St} {H : Hp} (n : noExc v) (r : RelE ⟨k, h⟩ m B v σ H) : RelE ⟨k, h'⟩ m B v σ H := RelE.hd (K := ⟨k, h⟩) (K' := ⟨k, h'⟩) rfl n r
theorem RepD.to {k : PySem.W.Frag} {h h' : Option Hand} {H : Hp} {m : Mp} {B : Addr → Prop} {d : D} {v : V} (n : ∀ c fs, d = .exc c fs → False) (r : RepD ⟨k, h⟩ H m B d v) : RepD ⟨k, h'⟩ H m B d v := RepD.hd (K := ⟨k, h⟩) (K' := ⟨k, h'⟩) rfl n r
/-- how an except suite's end is met outside of it -/
theorem suite_end {K : PySem.W.Frag} {cl : Cls_} {h : Hand} {slot : Option Nat} {Wo : WX} {m : Mp} {B : Addr → Prop} {H : Hp} {r : RS} {D : Ends} (hcl : cl.hd = none) (hs : EndS ⟨K, cl.hd⟩ cl Wo m B H (suiteEnd slot r) D) :
    EndS ⟨K, some h⟩ (cl.hot h) W0 m B H r (match slot with
      | some i => { nx := fun σ' H' => D.nx (σ'.set i none) H', rt := D.rt, bk := fun σ' H' => D.bk (σ'.set i none) H', ct := fun σ' H' => D.ct (σ'.set i none) H' }
      | none => D) := by
  have back : ∀ {m' : Mp} {e' : Env} {σ' : L2.St} {H' : Hp}, RelE ⟨K, some h⟩ m' B e' σ' H' → RelE ⟨K, cl.hd⟩ m' B (DL.clearX e') σ' H' := fun re => RelE.to noExc_clear (RelE.clearX re)
  cases r with
  | nx e' S' =>
    intro m' H' σ' x rs re
    cases slot with
    | none => exact hs m' H' σ' x (RelS.to rs) (back re)
    | some i => exact hs m' H' (σ'.set i none) x (RelS.to rs) ((back re).clear i)
  | bk e' S' =>
    intro m' H' σ' x rs re
    cases slot with
    | none => exact hs m' H' σ' x (RelS.to rs) (back re)
    | some i => exact hs m' H' (σ'.set i none) x (RelS.to rs) ((back re).clear i)
  | ct e' S' =>
    intro m' H' σ' x rs re
    cases slot with
    | none => exact hs m' H' σ' x (RelS.to rs) (back re)
    | some i => exact hs m' H' (σ'.set i none) x (RelS.to rs) ((back re).clear i)
  | ret d S' =>
    intro m' H' v x rs rd
    dsimp only [suiteEnd] at hs
    by_cases nd : noExcD d = true
    · rw [if_pos nd] at hs
      have q := hs m' H' v x (RelS.to rs) (RepD.to (fun c fs z => by rw [z] at nd; cases nd) rd)
      cases slot with
      | none => exact q
      | some i => exact q
    · rw [if_neg nd] at hs
      exact hs.elim
  | ex c fs e' S' => exact hs.elim
  | no => exact hs.elim
/-- what an except clause's class catches -/
structure CatchOk (K : PySem.W.Frag) (cl : Cls_) (c : Value) (hits : Nat → Bool) : Prop where
  ok : ∀ n D names, cl.tab n = some (D, names) → PySem.W.exmOne K (.ref D) c = some (hits n)
/-- an except suite's reading: the exception at a, its class cls, its dict d -/
def tSuite (K : PySem.W.Frag) (cl : Cls_) (f : Env → Store → RS) (a : Addr) (cls : Value) (d : Option Addr) : TS := fun D σ H =>
  ∃ n names C, cls = .ref C ∧ cl.tab n = some (C, names) ∧ tS ⟨K, some ⟨a, n, names, d⟩⟩ (cl.hot ⟨a, n, names, d⟩) W0 f D σ H
theorem suite_ok {body : List Stmt} {h : ISs} (hb : ∀ (a : Addr) (oe : Obj) (pn : List (Addr × Obj)) (hd : Hand), hd.a = a → HotX_ (X.suite a ((a, oe) :: pn)) (cl.hot hd) → DSs (X.suite a ((a, oe) :: pn)) (cl.hot hd) W0 body (evSs rn w h))
    (a : Addr) (oe : Obj) (cls : Value) (d : Option Addr) (pn : List (Addr × Obj)) (hz : L2N.Zn cls d oe) (hf : ∃ vs, oe.data = .fields vs) : PSs (X.suite a ((a, oe) :: pn)) body (tSuite X.K cl (evSs rn w h) a cls d) := by
  refine ⟨fun pins s σ H D I q => ?_⟩
  obtain ⟨n, names, C, rfl, tabC, q⟩ := q
  obtain ⟨vs, dat⟩ := hf
  exact (hb a oe pn ⟨a, n, names, d⟩ rfl ⟨_, (a, oe), rfl, ⟨rfl, ⟨C, tabC, hz⟩, vs, dat⟩, ⟨rfl, vs, dat, hz.2.2 vs dat⟩, List.mem_cons_self⟩).run pins s σ H D I q
theorem tw_as {b : ISs} {hits : Nat → Bool} {i : Nat} {h : ISs} {c : Value} (hcl : cl.hd = none) (ck : CatchOk X.K cl c hits) {D : Ends} {σ : L2.St} {H : Hp} (q : tS (kx X cl) cl W (evS rn w (.try_ b hits (some i) h)) D σ H) :
    tS (kx X cl) cl (wAs X.K c i (tSuite X.K cl (evSs rn w h)) W D) (evSs rn w b) D σ H := by
  obtain ⟨m, B, e, S, hS, hE, q⟩ := q
  refine ⟨m, B, e, S, hS, hE, ?_⟩
  simp only [evS] at q
  cases r : evSs rn w b e S with
  | nx e1 S1 => rw [r] at q; exact q
  | ret d S1 => rw [r] at q; exact q
  | bk e1 S1 => rw [r] at q; exact q
  | ct e1 S1 => rw [r] at q; exact q
  | no => rw [r] at q; exact q
  | ex n fs e1 S1 =>
    rw [r] at q
    dsimp only at q
    intro m' H' σ' cls dd x rs re xr
    obtain ⟨C, names, tabC, rfl, xf⟩ := xr
    refine ⟨hits n, ck.ok n C names tabC, fun hit a na => ?_, fun miss => ?_⟩
    · rw [if_pos hit] at q
      refine ⟨n, names, C, rfl, tabC, m', B, _, S1, RelS.to rs, RelE.set (RelE.to (RelE.calm hcl re) re) (d := .exc n fs) ⟨_, rfl, rfl, rfl, xf⟩ i, ?_⟩
      exact suite_end (slot := some i) hcl (q.ext x)
    · rw [miss, if_neg Bool.false_ne_true] at q
      exact q m' H' σ' (.ref C) dd x rs re ⟨C, names, tabC, rfl, xf⟩
theorem ds_try_as {x n : Str} {c : Value} {i : Nat} {body suite : List Stmt} {b₀ : Stmt} {np pos' : Pos} {b h : ISs} {hits : Nat → Bool} (hcl : cl.hd = none) (ck : CatchOk X.K cl c hits) (hs : X.stack = X.env :: X.outer) (hf : X.env.frame = some X.env.locals) (hN : X.N.Nodup) (hi : X.N[i]? = some n) (hln : X.env.kindOf n = some .local) (hc : Names X x c) (tk : L2N.Takes X W)
    (hb : ∀ (W : WX) (pn : List (Addr × Obj)) (xe : Value → Shared → Prop), L2N.Takes (X.tr pn xe) W → PassesOwn (model X.prog X.w) X.A X.env xe → DSs (X.tr pn xe) cl W body (evSs rn w b))
    (hsu : ∀ (a : Addr) (oe : Obj) (pn : List (Addr × Obj)) (hd : Hand), hd.a = a → HotX_ (X.suite a ((a, oe) :: pn)) (cl.hot hd) → DSs (X.suite a ((a, oe) :: pn)) (cl.hot hd) W0 (b₀ :: suite) (evSs rn w h)) :
    DS X cl W (.Try body [.ExceptHandler (some (.Name x np)) (some n) (b₀ :: suite) pos'] [] [] pos) (evS rn w (.try_ b hits (some i) h)) :=
  PS.imp (L2N.ps_try_as (tb := fun W => tS (kx X cl) cl W (evSs rn w b)) (ts := tSuite X.K cl (evSs rn w h)) (Wout := W) hs hf hN hi hln hc tk hb (suite_ok hsu)) fun D σ H q => tw_as hcl ck q
theorem tw_no {b : ISs} {hits : Nat → Bool} {h : ISs} {c : Value} (hcl : cl.hd = none) (ck : CatchOk X.K cl c hits) {D : Ends} {σ : L2.St} {H : Hp} (q : tS (kx X cl) cl W (evS rn w (.try_ b hits none h)) D σ H) :
    tS (kx X cl) cl (wMany X.K W D [(c, tSuite X.K cl (evSs rn w h))]) (evSs rn w b) D σ H := by
  obtain ⟨m, B, e, S, hS, hE, q⟩ := q
  refine ⟨m, B, e, S, hS, hE, ?_⟩
  simp only [evS] at q
  cases r : evSs rn w b e S with
  | nx e1 S1 => rw [r] at q; exact q
  | ret d S1 => rw [r] at q; exact q
  | bk e1 S1 => rw [r] at q; exact q
  | ct e1 S1 => rw [r] at q; exact q
  | no => rw [r] at q; exact q
  | ex n fs e1 S1 =>
    rw [r] at q
    dsimp only at q
    intro m' H' σ' cls dd x rs re xr
    obtain ⟨C, names, tabC, rfl, xf⟩ := xr
    refine ⟨hits n, ck.ok n C names tabC, fun hit a na => ?_, fun miss => ?_⟩
    · rw [if_pos hit] at q
      refine ⟨n, names, C, rfl, tabC, m', B, _, S1, RelS.to rs, RelE.to (RelE.calm hcl re) re, ?_⟩
      exact suite_end (slot := none) hcl (q.ext x)
    · rw [miss, if_neg Bool.false_ne_true] at q
      exact q m' H' σ' (.ref C) dd x rs re ⟨C, names, tabC, rfl, xf⟩
theorem ds_try_no {x : Str} {c : Value} {body suite : List Stmt} {b₀ : Stmt} {np pos' : Pos} {b h : ISs} {hits : Nat → Bool} (hcl : cl.hd = none) (ck : CatchOk X.K cl c hits) (hs : X.stack = X.env :: X.outer) (hf : X.env.frame = some X.env.locals) (hc : Names X x c) (tk : L2N.Takes X W)
    (hb : ∀ (W : WX) (pn : List (Addr × Obj)) (xe : Value → Shared → Prop), L2N.Takes (X.tr pn xe) W → PassesOwn (model X.prog X.w) X.A X.env xe → DSs (X.tr pn xe) cl W body (evSs rn w b))
    (hsu : ∀ (a : Addr) (oe : Obj) (pn : List (Addr × Obj)) (hd : Hand), hd.a = a → HotX_ (X.suite a ((a, oe) :: pn)) (cl.hot hd) → DSs (X.suite a ((a, oe) :: pn)) (cl.hot hd) W0 (b₀ :: suite) (evSs rn w h)) :
    DS X cl W (.Try body [.ExceptHandler (some (.Name x np)) none (b₀ :: suite) pos'] [] [] pos) (evS rn w (.try_ b hits none h)) :=
  PS.imp (L2N.ps_try_many (tb := fun W => tS (kx X cl) cl W (evSs rn w b)) (Wout := W) hs hf tk hb (.cons (ts := tSuite X.K cl (evSs rn w h)) hc (suite_ok hsu) .nil)) fun D σ H q => tw_no hcl ck q
end
end DL

set_option maxRecDepth 100000
set_option maxHeartbeats 1000000
/-! DXg: raise -/
namespace DL
open PySem PySem.Spec PyProof.Rows L2
section
variable {X : Cx} {cl : Cls_} {W : WX} {rn : Rn} {w : Nat} {pos : Pos}
abbrev veL : List Value := [.type "ValueError", .type "Exception", .type "BaseException", .type "object"]
/-- what the written part must say of an own class without own __init__ -/
structure RaiseC (K : PySem.W.Frag) (mg : Str → Option Value) (x : Str) (C : Addr) : Prop where
  g : mg x = some (.ref C)
  e : PySem.W.excIn K C veL "ValueError.__new__" = true
  k : PySem.W.keepIn K (.ref C) = true
  b : PySem.W.subIn K (.ref C) (.type "BaseException") = some true
  t : PySem.W.typeIn K (.ref C) = some (.type "type")
theorem pmk_no {x : Str} {C : Addr} {p : Pos} (T : RaiseC X.K X.mg x C) (hg : Gl X x) (hdb : (x == ("__debug__" : Str)) = false) : L2N.PMk X (.Call (.Name x p) [] [] pos) (fun _ H Q => Q (.ref C) none H) := by
  intro pins s σ H Q I wish
  refine wpAny_Call_Name_kw (ld_glob I hg T.g ?_ hdb)
  refine PySem.W.callWith_K0 I.kIn T.k ?_
  obtain ⟨bm, N, nm, qn, bs, hdct, sn, sub, ab, col, dd, k0, k1, k2, k3, k5, mN, hC, hN, hni, tail⟩ := exc_obj I.kIn T.e
  exact wpAny_call_exc_subT PySem.F.excBase_ValueError tail hC hN hni (fun h' e made => L2N.mk_of I made (raises_own T.b T.t) wish (I.hok.gone made.new)) (by show 0 ≤ sizeLine; exact Nat.zero_le _)
/-- raise C() -/
theorem ds_raise0 {x : Str} {c : Nat} {C : Addr} {p p2 : Pos} (hc : X.calm = true) (tk : L2N.Takes X W) (T : RaiseC X.K X.mg x C) (hg : Gl X x) (hdb : (x == ("__debug__" : Str)) = false) (hcl : cl.tab c = some (C, [])) :
    DS X cl W (.Raise (some (.Call (.Name x p) [] [] p2)) none pos) (evS rn w (.raise c .nil)) := PS.imp (L2N.ps_raise hc tk (pmk_no T hg hdb)) fun D σ H h => by
  obtain ⟨m, B, e, S, hS, hE, h⟩ := h
  simp only [evS, evEs] at h
  exact h m H σ (.ref C) none .refl hS hE ⟨C, [], hcl, rfl, .inl ⟨rfl, rfl, rfl⟩⟩
/-! ### a class with own __init__ -/
theorem pmkN_oex {CX : CXT} {x : Str} {e : Expr} {es : List Expr} {ta : TA} {p : Pos} {C fI : Addr} {k : Nat} {fd : FuncData} {ps : List Str} {sp : Sp} (T : OexC X.K C) (iC : PySem.W.findIn X.K (.ref C) "__init__" = some (some (.ref fI))) (tI : PySem.W.typeIn X.K (.ref fI) = some (.type "function"))
    (F1 : FnOk X.prog X.w X.K X.mg X.base CX k fI fd ps sp) (hr : Room (k + 1) X.A) (hb : Binds X.K fd ps []) (hx : Passes CX X (fun _ _ _ => False)) (hg : Gl X x) (hm : X.mg x = some (.ref C)) (ha : PA X (e :: es) ta)
    (hdb : (x == ("__debug__" : Str)) = false) (he : starEach (e :: es) X.env = (false, eval e X.env) :: starEach es X.env) (hpl : (backTo pos (starEach es X.env)).any (·.1) = false) :
    L2N.PMk X (.Call (.Name x p) (e :: es) [] pos) (tMkO C sp [] ta) := by
  intro pins s σ H Q I wish
  have cls := T.cls
  obtain ⟨nm, q, N, bs, bm, sn, sub, ab, col, dd, k0, k1, k2, k3, k5, atC, chain⟩ := cls
  refine wpAny_Call_Name_kw (ld_glob I hg hm ?_ hdb)
  refine PySem.W.callWith_K (h₀ := X.base) I.ok.mod.kin T.kC (thn (ha.run pos pins s σ H _ I wish) fun us s1 hs1 => ?_) he hpl
  obtain ⟨vs, H1, I1, rv, few, wish1⟩ := hs1
  refine ⟨I1.kIn, ?_⟩
  obtain ⟨hp, g, dr, tk, os⟩ := s1
  let a := hp.objs.size + 1
  let hp2 := (hp.push (PySem.W.kdv_tup us)).push (PySem.HandSPX.excO C hp.objs.size)
  have le : hp.objs.size ≤ a := Nat.le_succ _
  have wish2 := wish1 a (I1.hok.fresh le)
  rw [List.append_nil] at wish2
  have old : ∀ b o, hp.get? b = some o → hp2.get? b = some o := fun b o z => Heap.get?_push_of_some _ (Heap.get?_push_of_some _ z)
  have new : hp2.get? a = some (PySem.HandSPX.excO C hp.objs.size) := by
    show ((hp.push (PySem.W.kdv_tup us)).push (PySem.HandSPX.excO C hp.objs.size)).get? (hp.objs.size + 1) = _
    heap_get
  have I2 := I1.laid (t' := tk) (a := a) (o := exo a C none) (h' := hp2) old le (exo_ok new)
  have rv2 : Vals (V.ref a :: vs) (Value.ref a :: us) := .cons rfl rv
  have many : (Value.ref a :: us ++ []).length = ps.length := by
    rw [List.append_nil, ← rv2.length]
    exact F1.len _ _ _ _ wish2
  have bound := hb _ (Value.ref a :: us) I2.kIn many
  rw [List.append_nil] at bound
  have short : us.length ≤ sizeLine := by
    rw [← Paired.length rv, sizeLine_eq]
    omega
  show wpAny _ _ (call (.ref C) us) _ _ _
  refine wpAny_call (PySem.HandSPX.call_own F.excBase_ValueError (fun Y => PySem.HandSPX.refsVE_contains Y bm chain) (I1.kIn _ _ atC) (PySem.W.looks_findIn I1.kIn iC) (fun self => PySem.W.bind_fn I1.kIn self tI) short ?_)
  refine codeAny_mono (F1.run _ X.stack _ _ ⟨Value.ref a :: us, []⟩ (Value.ref a :: us) _ _ (fun _ _ _ => False) (hr.make C us []) (I2.env0.make C us []) bound rv2 wish2) fun r s' back => ?_
  cases r with
  | error er => exact hx pins σ _ _ er s' I2 back
  | ok fl =>
    cases fl with
    | ret u =>
      obtain ⟨v, H2, os2, bare2, un2, hok2, ru, rfl, d, fs, ea, ed, hd1, q2⟩ := back
      obtain ⟨h2, g2, d2, t2, os'⟩ := s'
      obtain ⟨t0, G, J, kG, ge, hoe, na⟩ := mk_end0 (d2 := d2) (t2 := t2) I1 le old un2 hok2 os2 bare2 ea ed hd1
      refine ⟨ru, a, _, _, ⟨G, g2, d2, t2, os'⟩, _, .ref C, some d, rfl, J, kG, ge, hoe, ⟨rfl, rfl, ?_⟩, rfl, rfl, na, rfl, bare2, raises_own T.exC T.tyC, q2⟩
      intro vs dat
      cases dat
      rfl
    | next => exact back.elim
    | brk => exact back.elim
    | cont => exact back.elim
/-- what __init__(self, f) with the one row self.f = f promises -/
def spI1 (K : PySem.W.Frag) (f : Str) : Sp := fun vs H Q _ => ∃ (a C : Addr) (v : V), vs = [.ref a, v] ∧ OexC K C ∧ PySem.W.findIn K (.ref C) f = some none ∧ H a = some (exo a C none) ∧
  ∀ dx, H dx = none → dx ≠ a → Q .non (upd (upd H dx (exd dx [(f, v)])) a (exo a C (some dx)))
/-- .. with two rows -/
def spI2 (K : PySem.W.Frag) (f g : Str) : Sp := fun vs H Q _ => ∃ (a C : Addr) (v u : V), vs = [.ref a, v, u] ∧ OexC K C ∧ PySem.W.findIn K (.ref C) f = some none ∧ PySem.W.findIn K (.ref C) g = some none ∧ H a = some (exo a C none) ∧
  ∀ dx, H dx = none → dx ≠ a → Q .non (upd (upd (upd H dx (exd dx [(f, v)])) a (exo a C (some dx))) dx (exd dx [(g, u), (f, v)]))
theorem upd_del {H : Hp} {a dx : Addr} {o1 o2 o3 o4 : HO} (na : H a = none) (ne : dx ≠ a) : upd (L2.del (upd (upd (upd H a o1) dx o2) a o3) a) dx o4 = upd H dx o4 := by
  funext b
  by_cases hb : b = dx
  · rw [hb, upd_same, upd_same]
  · rw [upd_ne hb, upd_ne hb]
    by_cases ha : b = a
    · rw [ha, del_same, na]
    · rw [del_ne ha, upd_ne ha, upd_ne hb, upd_ne ha]
theorem upd_del2 {H : Hp} {a dx : Addr} {o1 o2 o3 o4 o5 : HO} (na : H a = none) (ne : dx ≠ a) : upd (L2.del (upd (upd (upd (upd H a o1) dx o2) a o3) dx o5) a) dx o4 = upd H dx o4 := by
  funext b
  by_cases hb : b = dx
  · rw [hb, upd_same, upd_same]
  · rw [upd_ne hb, upd_ne hb]
    by_cases ha : b = a
    · rw [ha, del_same, na]
    · rw [del_ne ha, upd_ne hb, upd_ne ha, upd_ne hb, upd_ne ha]
section
variable {P : Program} {wd : World} {K : PySem.W.Frag} {mg : Str → Option Value} {base : Heap} {CX : CXT} {k : Nat} {fI : Addr} {fd : FuncData} {x qual : Str} {st : Stmt}
theorem init1_ok {f : Str} (F : Fun K x qual st fI fd) (S : FnScope ["self", f] ["self", f] (defScope st))
    (hb : ∀ (cdv : Value) (A : Around) (outer : List PySem.Env) (s : Shared) (H : Hp) (E : XK), PSs (cxOf CX P wd K mg base ["self", f] qual (defScope st) fI cdv A outer s H E) (defBody st) (tOst K f (tVar 0) (tVar 1))) :
    FnOk P wd K mg base CX (k + 1) fI fd ["self", f] (spI1 K f) := by
  obtain ⟨oc, od, kV, doc, pm, an, cdv, ct, osl, rfl, lk, hcd⟩ := F.ex
  refine fn_of lk hcd S (fun vs H Q E q => ?_) fun A outer s H vs Q E hr q => ⟨_, hb cdv A outer s H E, ?_⟩
  · obtain ⟨a, C, v, rfl, _⟩ := q
    rfl
  · obtain ⟨a, C, v, rfl, T, no, ha, q⟩ := q
    exact ⟨v, rfl, .ref a, rfl, a, C, rfl, T, no, .inl ⟨ha, fun dx n ne => q dx n ne⟩⟩
theorem init2_ok {f g : Str} {s1 s2 : Stmt} (F : Fun K x qual st fI fd) (S : FnScope ["self", f, g] ["self", f, g] (defScope st)) (hbody : defBody st = [s1, s2])
    (hb1 : ∀ (cdv : Value) (A : Around) (outer : List PySem.Env) (s : Shared) (H : Hp) (E : XK), PS (cxOf CX P wd K mg base ["self", f, g] qual (defScope st) fI cdv A outer s H E) s1 (tOst K f (tVar 0) (tVar 1)))
    (hb2 : ∀ (cdv : Value) (A : Around) (outer : List PySem.Env) (s : Shared) (H : Hp) (E : XK), PS (cxOf CX P wd K mg base ["self", f, g] qual (defScope st) fI cdv A outer s H E) s2 (tOst K g (tVar 0) (tVar 2))) :
    FnOk P wd K mg base CX (k + 1) fI fd ["self", f, g] (spI2 K f g) := by
  obtain ⟨oc, od, kV, doc, pm, an, cdv, ct, osl, rfl, lk, hcd⟩ := F.ex
  refine fn_of lk hcd S (fun vs H Q E q => ?_) fun A outer s H vs Q E hr q => ⟨_, by rw [hbody]; exact pss_cons (hb1 cdv A outer s H E) (pss_one (hb2 cdv A outer s H E)), ?_⟩
  · obtain ⟨a, C, v, u, rfl, _⟩ := q
    rfl
  · obtain ⟨a, C, v, u, rfl, T, no, no2, ha, q⟩ := q
    refine ⟨v, rfl, .ref a, rfl, a, C, rfl, T, no, .inl ⟨ha, fun dx n ne => ?_⟩⟩
    refine ⟨u, rfl, .ref a, rfl, a, C, rfl, T, no2, .inr ⟨dx, [(f, v)], upd_same, ?_, by show 1 ≤ 900; decide, q dx n ne⟩⟩
    rw [upd_ne ne, upd_same]
end
end
section
variable {X : Cx} {cl : Cls_} {W : WX} {rn : Rn} {w : Nat} {pos : Pos}
theorem XR_new {K : PySem.W.Frag} {B : Addr → Prop} {m : Mp} {H : Hp} {d C : Addr} {c : Nat} {names : List Str} {fv : List (Str × V)} {fs : List P} {S : Store} {k : Option Hand} (hS : RelS ⟨K, k⟩ m B S H) (hd : H d = none) (tab : cl.tab c = some (C, names)) (en : fv.map (·.1) = names) (rp : Reps K H (Pr m B) fs (fv.map (·.2))) :
    Ext m H m (upd H d (.xd fv)) ∧ RelS ⟨K, k⟩ m B S (upd H d (.xd fv)) ∧ XR K cl (upd H d (.xd fv)) m B c fs (.ref C) (some d) := by
  have sm : Same H (upd H d (.xd fv)) := Same.new hd
  have x : Ext m H m (upd H d (.xd fv)) := .same sm
  exact ⟨x, hS.same sm, C, names, tab, rfl, .inr ⟨d, fv, rfl, upd_same, fun z => hS.pr z hd, en, x.reps (K := ⟨K, none⟩) rp⟩⟩
/-- raise C(e), __init__(self, f): self.f = f -/
theorem ds_raise1 {x f : Str} {c k : Nat} {C fI : Addr} {fd : FuncData} {a : Expr} {i : IE} {p p2 : Pos} (hc : X.calm = true) (tk : L2N.Takes X W) (T : OexC X.K C) (iC : PySem.W.findIn X.K (.ref C) "__init__" = some (some (.ref fI))) (tI : PySem.W.typeIn X.K (.ref fI) = some (.type "function"))
    (nof : PySem.W.findIn X.K (.ref C) f = some none) (F1 : FnOk X.prog X.w X.K X.mg X.base (L2N.CX X.prog X.w) k fI fd ["self", f] (spI1 X.K f)) (hr : Room (k + 1) X.A) (hb : Binds X.K fd ["self", f] []) (hg : Gl X x) (hm : X.mg x = some (.ref C)) (hcl : cl.tab c = some (C, [f])) (ha : DE X cl W a (evE rn i))
    (hdb : (x == ("__debug__" : Str)) = false) (he : starEach [a] X.env = (false, eval a X.env) :: starEach [] X.env) (hpl : (backTo p2 (starEach [] X.env)).any (·.1) = false) :
    DS X cl W (.Raise (some (.Call (.Name x p) [a] [] p2)) none pos) (evS rn w (.raise c (.cons i .nil))) := by
  refine PS.imp (L2N.ps_raise hc tk (pmkN_oex T iC tI F1 hr hb (fun pins σ H s e s' I z => by obtain ⟨_, _, _, _, _, _, _, _, _, _, _, _, z⟩ := z; exact z.elim) hg hm (pa_cons ha pa_nil he) hdb he hpl)) fun D σ H h => ?_
  obtain ⟨m, B, e, S, hS, hE, h⟩ := h
  simp only [evS, evEs] at h
  have go_bind : ∀ {α β : Type} (r : R α) (k : α → Store → R β) (k2 : β → Store → RS), (r.bind k).go e k2 = r.go e fun a S => (k a S).go e k2 := fun r k k2 => by cases r <;> rfl
  rw [go_bind] at h
  refine tS_bind hS hE h fun d S1 m1 H1 v x1 hS1 hE1 r1 h1 eq1 => ?_
  simp only [R.bind_ok, R.go_ok] at h1
  cases d with
  | ref l => exact h1.elim
  | exc n fs => exact h1.elim
  | p y =>
    simp only [pures] at h1
    refine ⟨by show 1 ≤ 1000; decide, fun o no => ⟨o, C, v, rfl, T, nof, upd_same, fun dx nd ne => ⟨rfl, dx, [(f, v)], upd_same, ?_, ?_, ?_⟩⟩⟩
    · rw [upd_ne ne, upd_same]
    · rw [upd_ne ne] at nd
      exact nd
    · rw [upd_ne ne] at nd
      obtain ⟨x2, rs2, xr⟩ := XR_new (cl := cl) (c := c) (fv := [(f, v)]) (fs := [y]) hS1 nd hcl rfl (Reps.one r1)
      rw [upd_del no ne]
      exact h1 m1 _ σ (.ref C) (some dx) x2 rs2 (x2.relE hE1) xr
/-- raise C(e, e2), __init__(self, f, g): self.f = f; self.g = g -/
theorem ds_raise2 {x f g : Str} {c k : Nat} {C fI : Addr} {fd : FuncData} {a b : Expr} {i j : IE} {p p2 : Pos} (hc : X.calm = true) (tk : L2N.Takes X W) (T : OexC X.K C) (iC : PySem.W.findIn X.K (.ref C) "__init__" = some (some (.ref fI))) (tI : PySem.W.typeIn X.K (.ref fI) = some (.type "function"))
    (nof : PySem.W.findIn X.K (.ref C) f = some none) (nog : PySem.W.findIn X.K (.ref C) g = some none) (F1 : FnOk X.prog X.w X.K X.mg X.base (L2N.CX X.prog X.w) k fI fd ["self", f, g] (spI2 X.K f g)) (hr : Room (k + 1) X.A) (hb : Binds X.K fd ["self", f, g] []) (hg : Gl X x) (hm : X.mg x = some (.ref C)) (hcl : cl.tab c = some (C, [g, f])) (ha : DE X cl W a (evE rn i)) (hb2 : DE X cl W b (evE rn j))
    (hdb : (x == ("__debug__" : Str)) = false) (he : starEach [a, b] X.env = (false, eval a X.env) :: starEach [b] X.env) (he2 : starEach [b] X.env = (false, eval b X.env) :: starEach [] X.env) (hpl : (backTo p2 (starEach [b] X.env)).any (·.1) = false) :
    DS X cl W (.Raise (some (.Call (.Name x p) [a, b] [] p2)) none pos) (evS rn w (.raise c (.cons i (.cons j .nil)))) := by
  refine PS.imp (L2N.ps_raise hc tk (pmkN_oex T iC tI F1 hr hb (fun pins σ H s e s' I z => by obtain ⟨_, _, _, _, _, _, _, _, _, _, _, _, z⟩ := z; exact z.elim) hg hm (pa_cons ha (pa_cons hb2 pa_nil he2) he) hdb he hpl)) fun D σ H h => ?_
  obtain ⟨m, B, e, S, hS, hE, h⟩ := h
  simp only [evS, evEs] at h
  have go_bind : ∀ {α β : Type} (r : R α) (k : α → Store → R β) (k2 : β → Store → RS), (r.bind k).go e k2 = r.go e fun a S => (k a S).go e k2 := fun r k k2 => by cases r <;> rfl
  rw [go_bind] at h
  refine tS_bind hS hE h fun d S1 m1 H1 v x1 hS1 hE1 r1 h1 eq1 => ?_
  simp only [go_bind, R.bind_ok, R.go_ok] at h1
  refine tS_bind hS1 hE1 h1 fun d2 S2 m2 H2 u x2 hS2 hE2 r2 h2 eq2 => ?_
  cases d with
  | ref l => exact h2.elim
  | exc n fs => exact h2.elim
  | p y =>
    cases d2 with
    | ref l => exact h2.elim
    | exc n fs => exact h2.elim
    | p z =>
      simp only [pures] at h2
      refine ⟨by show 2 ≤ 1000; decide, fun o no => ⟨o, C, v, u, rfl, T, nof, nog, upd_same, fun dx nd ne => ⟨rfl, dx, [(g, u), (f, v)], ?_, upd_same, ?_, ?_⟩⟩⟩
      · rw [upd_ne (Ne.symm ne), upd_same]
      · rw [upd_ne ne] at nd
        exact nd
      · rw [upd_ne ne] at nd
        obtain ⟨x3, rs3, xr⟩ := XR_new (cl := cl) (c := c) (fv := [(g, u), (f, v)]) (fs := [z, y]) hS2 nd hcl rfl (Reps.cons_iff.mpr ⟨u, [v], rfl, r2, Reps.one (x2.repD r1)⟩)
        rw [upd_del2 no ne]
        exact h2 m2 _ σ (.ref C) (some dx) x3 rs3 (x3.relE hE2) xr
end
end DL

set_option maxRecDepth 100000
set_option maxHeartbeats 1000000
/-! DXh: xs.count(y); the tables of classes -/
namespace DL
open PySem PySem.Spec PyProof.Rows L2
/-! ### xs.count(y) -/
def rCountD (K : PySem.W.Frag) : V → List V → Hp → VK → Prop := fun x xs H Q => ∃ (a : Addr) (y : V) (d : PyData) (ds : List PyData), x = V.ref a ∧ xs = [y] ∧ Dp K H (V.ref a) (.list ds) ∧ Dp K H y d ∧
  SeqAt.shaped (.list ds) = true ∧ SeqAt.shaped d = true ∧ Q (.int ((ds.countP fun z => PyData.eqv z d : Nat) : Int)) H
theorem mt_countD {X : Cx} (hu : X.A.units + 65 < cLine) : MtR X "list.count" (rCountD X.K) := by
  intro pins s σ H x xs v us Q I rx rxs wish
  obtain ⟨a, y, d, ds, rfl, rfl, dl, dy, sl, sd, q⟩ := wish
  cases rx
  obtain ⟨uy, ur, rfl, ry, rt⟩ : ∃ uy ur, us = uy :: ur ∧ RelV y uy ∧ Vals [] ur := by
    cases rxs with
    | cons r1 r2 => exact ⟨_, _, rfl, r1, r2⟩
  cases rt
  obtain ⟨bs, reads⟩ := Dp.reads I d y uy dy ry
  cases dl with
  | lst hs ha =>
    obtain ⟨its, rv, plain, _⟩ := I.list hs
    obtain ⟨as, all⟩ := Dp.readsAll I ds _ its ha rv
    exact SeqAt.count_list_data (vs := its.toArray) plain.isList (show ReadsAll s.heap its.toArray.toList ds as from all) reads (PyData.plainAll_of_canLay0 ds (SeqAt.canLay_of_shaped sl)) (PyData.plain_of_canLay0 d (SeqAt.canLay_of_shaped sd)) (room_in_shaped sd hu) ⟨.int _, H, I.tok _, ⟨_, rfl⟩, q⟩
theorem toPys_count : ∀ {n : Nat} {ys : List P} {x : P}, P.shps n ys = true → (∀ y, P.shp n y = true → PyData.eqv (toPy y) (toPy x) = P.eqv y x) → (toPys ys).countP (fun z => PyData.eqv z (toPy x)) = ys.countP fun y => P.eqv y x
  | n, [], x, _, _ => rfl
  | n, y :: r, x, h, e => by
    simp only [P.shps, Bool.and_eq_true] at h
    simp only [toPys, List.countP_cons, e y h.1, toPys_count h.2 e]
theorem ov_count {K : PySem.W.Frag} : OpV K (rOfM (rCountD K)) lcountP := by
  intro H pr xs vs y Q hp hr hf hq
  unfold lcountP at hf
  split at hf
  · rename_i ys x
    split at hf
    · rename_i hc
      rw [Bool.and_eq_true] at hc
      cases hf
      obtain ⟨w1, s1, rfl, r1, rt2⟩ := hr
      obtain ⟨w2, s2, rfl, r2, e3⟩ := rt2
      subst e3
      have h60 := shp_mono 59 x hc.1
      have hl : P.shp 60 (.lst ys) = true := hc.2
      obtain ⟨d1, c1⟩ := dp_top h60 r2
      obtain ⟨d2, c2⟩ := dp_top hl r1
      have e2 : toPy (.lst ys) = .list (toPys ys) := rfl
      rw [e2] at d2
      obtain ⟨a, us, ea, rd, rp⟩ := (show RepT K H pr (.lst ys) w1 from r1)
      subst ea
      intro v ws e
      cases e
      refine ⟨a, w2, toPy x, toPys ys, rfl, rfl, d2, d1, e2 ▸ shaped_of hl c2, shaped_of h60 c1, ?_⟩
      rw [toPys_count (n := 59) hc.2 fun y hy => eqv_py 59 y x hy hc.1]
      exact hq H _ (Same.refl _) rfl
    · cases hf
  · cases hf
/-! ### the classes of exceptions -/
def tabOf (l : List (Nat × Addr × List Str)) (c : Nat) : Option (Addr × List Str) := l.lookup c
theorem tabOf_mem {l : List (Nat × Addr × List Str)} {c : Nat} {D : Addr} {names : List Str} (h : tabOf l c = some (D, names)) : (c, D, names) ∈ l := by
  unfold tabOf at h
  induction l with
  | nil => cases h
  | cons t r ih =>
    obtain ⟨c', t⟩ := t
    by_cases e : c = c'
    · subst e
      simp [List.lookup] at h
      rw [h]
      exact List.mem_cons_self
    · have : (c == c') = false := by simpa using e
      simp only [List.lookup, this] at h
      exact List.mem_cons_of_mem _ (ih h)
/-- what is said of the class that is asked for -/
structure AskC (K : PySem.W.Frag) (C : Addr) : Prop where
  i : PySem.W.isClsIn K C = true
  t : PySem.W.typeIn K (.ref C) = some (.type "type")
  s : PySem.W.subIn K (.ref C) (.ref C) = some true
theorem kit_ask {K : PySem.W.Frag} {C D : Addr} {b : Bool} (A : AskC K C) (h : PySem.W.subIn K (.ref D) (.ref C) = some b) : PySem.W.kitOne K (.ref D) (.ref C) = some b := by
  unfold PySem.W.kitOne
  by_cases e : D = C
  · subst e
    rw [A.s] at h
    cases h
    rw [if_pos (by simp)]
  · rw [if_neg (by simpa using e)]
    show (if ((PySem.W.clsIn K C).isSome && PySem.W.typeIn K (.ref C) == some (.type "type")) = true then PySem.W.subIn K (.ref D) (.ref C) else none) = some b
    have i : (PySem.W.clsIn K C).isSome = true := A.i
    rw [if_pos (by rw [i, A.t]; rfl)]
    exact h
theorem kit_ve {K : PySem.W.Frag} {D : Addr} {b : Bool} (h : PySem.W.subIn K (.ref D) (.type "ValueError") = some b) : PySem.W.kitOne K (.ref D) (.type "ValueError") = some b := by
  unfold PySem.W.kitOne
  rw [if_neg (by simp)]
  show (if PySem.W.kitMeta "ValueError" = true then PySem.W.subIn K (.ref D) (.type "ValueError") else none) = some b
  rw [if_pos (by decide +kernel)]
  exact h
theorem IsxOk.of {K : PySem.W.Frag} {l : List (Nat × Addr × List Str)} {hd : Option Hand} {cv : Value} {hits : Nat → Bool} (h : ∀ t ∈ l, ExcC K t.2.1 ∧ PySem.W.kitOne K (.ref t.2.1) cv = some (hits t.1)) : IsxOk K ⟨tabOf l, hd⟩ cv hits := ⟨fun c D names e => h _ (tabOf_mem e)⟩
theorem CatchOk.of {K : PySem.W.Frag} {l : List (Nat × Addr × List Str)} {hd : Option Hand} {C : Addr} {hits : Nat → Bool} (h1 : PySem.W.subIn K (.ref C) (.type "BaseException") = some true) (hdct : PySem.W.hasDictIn K C = true) (ht : PySem.W.typeIn K (.ref C) = some (.type "type")) (h : ∀ t ∈ l, PySem.W.subIn K (.ref t.2.1) (.ref C) = some (hits t.1)) : CatchOk K ⟨tabOf l, hd⟩ (.ref C) hits :=
  ⟨fun n D names e => PySem.W.exm_ref h1 hdct ht (h _ (tabOf_mem e))⟩
theorem ExcC.xf {K : PySem.W.Frag} {D : Addr} (C : ExcC K D) : XfC K D := ⟨C.hg, C.hk, C.hs, C.hd⟩
theorem lk1 {f : Str} {fv : List (Str × V)} (h : fv.map (·.1) = [f]) : fv.lookup f = (fv.map (·.2))[0]? := by
  match fv, h with
  | [(g, v)], h =>
    cases h
    simp [List.lookup]
theorem lk2a {f g : Str} {fv : List (Str × V)} (h : fv.map (·.1) = [f, g]) : fv.lookup f = (fv.map (·.2))[0]? := by
  match fv, h with
  | [(a, v), (b, u)], h =>
    cases h
    simp [List.lookup]
theorem lk2b {f g : Str} {fv : List (Str × V)} (hn : (g == f) = false) (h : fv.map (·.1) = [f, g]) : fv.lookup g = (fv.map (·.2))[1]? := by
  match fv, h with
  | [(a, v), (b, u)], h =>
    cases h
    simp [List.lookup, hn]
theorem FldOk.of {K : PySem.W.Frag} {l : List (Nat × Addr × List Str)} {hd : Option Hand} {f : Str} {g : Nat → Option Nat} (h : ∀ t ∈ l, ∀ k, g t.1 = some k → XfC K t.2.1 ∧ PySem.W.findIn K (.ref t.2.1) f = some none ∧ ∀ (fv : List (Str × V)), fv.map (·.1) = t.2.2 → fv.lookup f = (fv.map (·.2))[k]?) : FldOk K ⟨tabOf l, hd⟩ f g :=
  ⟨fun c D names k e hg => h _ (tabOf_mem e) k hg⟩
theorem all_nil {α : Type} {p : α → Prop} : ∀ t ∈ ([] : List α), p t := fun _ h => by cases h
theorem all_cons {α : Type} {p : α → Prop} {a : α} {l : List α} (h1 : p a) (h2 : ∀ t ∈ l, p t) : ∀ t ∈ a :: l, p t := List.forall_mem_cons.mpr ⟨h1, h2⟩
theorem roomH_mk {k : Nat} {A : Around} (r : Room k A) (h : Option Value) : L2H.RoomH k (A.mark h) := ⟨r.dp, r.un⟩
theorem roomH_ok {k : Nat} {A : Around} (r : L2H.RoomH k A) : A.units + 100 < cLine ∧ A.units + 65 < cLine ∧ A.units + 64 < cLine ∧ A.units + 1 < cLine := by
  have := r.un
  omega
theorem fn_weak {P : Program} {w : World} {K : PySem.W.Frag} {mg : Str → Option Value} {base : Heap} {CX : CXT} {k : Nat} {f : Addr} {fd : FuncData} {ps : List Str} {sp sp' : Sp} (F : FnOk P w K mg base CX k f fd ps sp) (h : ∀ vs H Q E, sp' vs H Q E → sp vs H Q E) : FnOk P w K mg base CX k f fd ps sp' :=
  ⟨fun vs H Q E q => F.len vs H Q E (h _ _ _ _ q), fun A outer s H args us vs Q E hr e0 hb hv q => F.run A outer s H args us vs Q E hr e0 hb hv (h _ _ _ _ q)⟩
theorem takes0N {X : Cx} : L2N.Takes X W0 := fun u s' x => by
  obtain ⟨_, _, _, _, _, _, _, _, _, _, _, _, _, _, _, _, z⟩ := x
  exact z.elim
end DL

set_option maxRecDepth 100000
set_option maxHeartbeats 1000000
/-! DXi: text methods -/
namespace DL
open PySem PySem.Spec PyProof.Rows L2
section
variable {K : PySem.W.Frag}
theorem upper_one : ∀ c, c < 123 → 97 ≤ c → Txt.upper (strV [c]) = strV [c - 32] := by decide +kernel
theorem ov_upper : OpV K (rOfM fun x xs H Q => ∃ a, x = .str a ∧ xs = [] ∧ a.length ≤ 5592405 ∧ Q (.str (Txt.upper a)) H) upperP := by
  intro H pr xs vs y Q hp hr hf hq
  unfold upperP at hf
  split at hf
  · rename_i c
    split at hf
    · rename_i hc
      cases hf
      obtain ⟨w1, s1, rfl, r1, r2⟩ := hr
      obtain rfl : s1 = [] := r2
      obtain ⟨rfl, ok⟩ := r1.str
      intro v ws e
      cases e
      refine ⟨_, rfl, rfl, by simp [strV, Str.length], ?_⟩
      rw [upper_one c (by omega) hc.1]
      exact hq H _ (Same.refl _) ⟨rfl, okS_of (by simp; omega)⟩
    · cases hf
  · cases hf
/-! is of truths -/
theorem ov_isB : OpV K (rOf2 rIsB) isBP := .two (fun H pr x y v w z Q hp r1 r2 hf hq => by
  unfold isBP at hf
  split at hf
  · rename_i e
    cases e
    cases hf
    exact ⟨_, _, r1.bl, r2.bl, hq H _ (Same.refl _) rfl⟩
  · cases hf) fun xs z h => by
  unfold isBP at h
  split at h
  · exact ⟨_, _, rfl⟩
  · cases h
theorem ov_notB : OpV K (rOf2 rNotB) isNotBP := .two (fun H pr x y v w z Q hp r1 r2 hf hq => by
  unfold isNotBP at hf
  split at hf
  · rename_i e
    cases e
    cases hf
    exact ⟨_, _, r1.bl, r2.bl, hq H _ (Same.refl _) rfl⟩
  · cases hf) fun xs z h => by
  unfold isNotBP at h
  split at h
  · exact ⟨_, _, rfl⟩
  · cases h
end
theorem xfc_of {K : PySem.W.Frag} {D : Addr} (C : ExcC K D) : XfC K D := ⟨C.hg, C.hk, C.hs, C.hd⟩
end DL

set_option maxRecDepth 100000
set_option maxHeartbeats 1000000
/-! DEnd: the law's end -/
namespace DL
open PySem PySem.Spec PyProof.Rows L2
theorem ints_reps {K : PySem.W.Frag} {H : Hp} {pr : Addr → Prop} : ∀ ns : List Int, Reps K H pr (ns.map .int) (ns.map V.int)
  | [] => Reps.nil_iff.mpr rfl
  | n :: r => Reps.cons_iff.mpr ⟨_, _, rfl, rfl, ints_reps r⟩
theorem sp_law {K : PySem.W.Frag} {cl : Cls_} {g : List D → Store → R D} {H : Hp} {a : Addr} {ns : List Int} (hS : SqL K H a (ns.map V.int)) (h : ∃ S, g [.p (.scr (ns.map .int))] [] = .ok (.p (.bl true)) S) :
    spD K cl 1 g [.ref a] H (fun v _ => v = .bl true) fun _ _ _ => False := by
  obtain ⟨S, h⟩ := h
  refine ⟨[], fun _ => False, [], [.p (.scr (ns.map .int))], ⟨rfl, fun i j a e => by simp at e, fun i a e => by simp at e, fun i e => by simp at e, fun a h => h.elim⟩, ⟨_, [], rfl, ?_, rfl⟩, rfl, ?_⟩
  · refine ⟨a, _, rfl, ?_, ints_reps ns⟩
    rcases hS with hS | hS
    · exact .inl ⟨fun z => z.elim (fun z => by simp at z) id, hS⟩
    · exact .inr hS
  · rw [h]
    exact fun m' H' v x rs rp => rp
theorem cx_none {P : Program} {w : World} {outer : List PySem.Env} {H : Hp} {s : Shared} {e : Value} {s' : Shared} (h : L2N.CX P w outer H s (fun _ _ _ => False) e s') : False := by
  obtain ⟨_, _, _, _, _, _, _, _, _, _, _, _, z⟩ := h
  exact z
end DL

/-! DSpec: the evaluator's equations as simp rules, loops -/
namespace DL
/-! the head first: what comes behind is looked at when the head has ended -/
theorem R.bind_congr {α β : Type} {r r2 : R α} (f : α → Store → R β) (h : r = r2) : r.bind f = r2.bind f := h ▸ rfl
theorem R.go_congr {α : Type} {r r2 : R α} (e : Env) (f : α → Store → RS) (h : r = r2) : r.go e f = r2.go e f := h ▸ rfl
section
variable (rn : Rn) (w : Nat)
@[simp] theorem evE_c (x : P) (e : Env) (S : Store) : evE rn (.c x) e S = .ok (.p x) S := by simp only [evE]
def getR (o : Option (Option D)) (S : Store) : R D := match o with
  | some (some d) => .ok d S
  | _ => .no
@[simp] theorem getR_some (d : D) (S : Store) : getR (some (some d)) S = .ok d S := rfl
@[simp] theorem evE_v (i : Nat) (e : Env) (S : Store) : evE rn (.v i) e S = getR e[i]? S := by simp only [evE]; rfl
/-- what an operation tells -/
def liftR (S : Store) : Option P → R D
  | some y => .ok (.p y) S
  | none => .no
@[simp] theorem liftR_some (S : Store) (y : P) : liftR S (some y) = .ok (.p y) S := rfl
@[simp] theorem liftR_none (S : Store) : liftR S none = .no := rfl
theorem tupP_np {xs : List P} (h : isPairs xs = false) : tupP xs = some (.tup xs) := by simp [tupP, h]
@[simp] theorem isPair_int (i : Int) : isPair (.int i) = false := rfl
@[simp] theorem isPair_str (x : List Nat) : isPair (.str x) = false := rfl
@[simp] theorem isPair_lst (x : List P) : isPair (.lst x) = false := rfl
@[simp] theorem isPair_bl (b : Bool) : isPair (.bl b) = false := rfl
@[simp] theorem isPair_non : isPair .non = false := rfl
@[simp] theorem isPair_nil : isPair (.tup []) = false := rfl
@[simp] theorem isPairs_nil : isPairs [] = false := rfl
@[simp] theorem isPairs_cons (x : P) (r : List P) : isPairs (x :: r) = (isPair x && r.all isPair) := rfl
def opR (f : List P → Option P) (ds : List D) (S : Store) : R D := liftR S ((vals S ds).bind f)
def pkR (f : List P → Option P) (ds : List D) (S : Store) : R D := liftR S ((pures ds).bind f)
@[simp] theorem evE_op (f : List P → Option P) (es : IEs) (e : Env) (S : Store) : evE rn (.op f es) e S = (evEs rn es e S).bind fun ds S1 => opR f ds S1 := by
  simp only [evE]
  congr 1
  funext ds S1
  unfold opR
  cases vals S1 ds with
  | none => rfl
  | some xs => simp only [Option.bind_some]; cases f xs <;> rfl
@[simp] theorem evE_pk (f : List P → Option P) (es : IEs) (e : Env) (S : Store) : evE rn (.pk f es) e S = (evEs rn es e S).bind fun ds S1 => pkR f ds S1 := by
  simp only [evE]
  congr 1
  funext ds S1
  unfold pkR
  cases pures ds with
  | none => rfl
  | some xs => simp only [Option.bind_some]; cases f xs <;> rfl
@[simp] theorem evE_call (f : Nat) (es : IEs) (e : Env) (S : Store) : evE rn (.call f es) e S = (evEs rn es e S).bind fun ds S1 => rn f ds S1 := by simp only [evE]
def boolR {α : Type} (d : D) (k : Bool → R α) : R α := match trueD d with
  | some b => k b
  | none => .no
@[simp] theorem boolR_bl {α : Type} (b : Bool) (k : Bool → R α) : boolR (.p (.bl b)) k = k b := rfl
@[simp] theorem evE_and (a b : IE) (e : Env) (S : Store) : evE rn (.and_ a b) e S = (evE rn a e S).bind fun d S1 => boolR d fun c => if c then evE rn b e S1 else .ok (.p (.bl false)) S1 := by
  simp only [evE]
  congr 1
  funext d S1
  unfold boolR
  cases trueD d with
  | none => rfl
  | some c => cases c <;> rfl
@[simp] theorem evE_or (a b : IE) (e : Env) (S : Store) : evE rn (.or_ a b) e S = (evE rn a e S).bind fun d S1 => boolR d fun c => if c then .ok (.p (.bl true)) S1 else evE rn b e S1 := by
  simp only [evE]
  congr 1
  funext d S1
  unfold boolR
  cases trueD d with
  | none => rfl
  | some c => cases c <;> rfl
@[simp] theorem evE_not (a : IE) (e : Env) (S : Store) : evE rn (.not_ a) e S = (evE rn a e S).bind fun d S1 => boolR d fun c => .ok (.p (.bl (!c))) S1 := by
  simp only [evE]
  congr 1
@[simp] theorem evE_ite (t a b : IE) (e : Env) (S : Store) : evE rn (.ite t a b) e S = (evE rn t e S).bind fun d S1 => boolR d fun c => if c then evE rn a e S1 else evE rn b e S1 := by
  simp only [evE]
  congr 1
  funext d S1
  unfold boolR
  cases trueD d with
  | none => rfl
  | some c => cases c <;> rfl
def partR (d : D) (S : Store) : R D := match d with
  | .p (.int i) => .ok (.p (.int i)) S
  | _ => .no
@[simp] theorem partR_int (i : Int) (S : Store) : partR (.p (.int i)) S = .ok (.p (.int i)) S := rfl
@[simp] theorem evE_part (a : IE) (e : Env) (S : Store) : evE rn (.part a) e S = (evE rn a e S).bind partR := by simp only [evE]; rfl
@[simp] theorem evE_new (a : IE) (e : Env) (S : Store) : evE rn (.new a) e S = (evE rn a e S).bind newD := by simp only [evE]
@[simp] theorem evE_frz (a : IE) (e : Env) (S : Store) : evE rn (.frz a) e S = (evE rn a e S).bind (frzD S) := by simp only [evE]
def methR (T : P → Bool) (f : List P → Option P) (d : D) (S1 : Store) (g : Store → R (List D)) : R D := match val S1 d with
    | some x => if T x then (g S1).bind fun ds S2 => opR f (d :: ds) S2 else .no
    | none => .no
@[simp] theorem evE_meth (T : P → Bool) (f : List P → Option P) (a : IE) (es : IEs) (e : Env) (S : Store) : evE rn (.meth T f a es) e S = (evE rn a e S).bind fun d S1 => methR T f d S1 fun S2 => evEs rn es e S2 := by
  simp only [evE]
  congr 1
  funext d S1
  unfold methR
  cases val S1 d with
  | none => rfl
  | some x =>
    simp only
    congr 1
    congr 1
    funext ds S2
    unfold opR
    cases vals S2 (d :: ds) with
    | none => rfl
    | some xs => simp only [Option.bind_some]; cases f xs <;> rfl
/-- what a change tells -/
def mutO (g : Mu) (d : D) (S : Store) : Option (List P) → R D
  | some xs => mutD g d xs S
  | none => .no
@[simp] theorem mutO_some (g : Mu) (d : D) (S : Store) (xs : List P) : mutO g d S (some xs) = mutD g d xs S := rfl
def mutR (T : P → Bool) (g : Mu) (d : D) (S1 : Store) (h : Store → R (List D)) : R D := match val S1 d with
    | some x => if T x then (h S1).bind fun ds S2 => mutO g d S2 (pures ds) else .no
    | none => .no
@[simp] theorem evE_mut (T : P → Bool) (g : Mu) (a : IE) (es : IEs) (e : Env) (S : Store) : evE rn (.mut T g a es) e S = (evE rn a e S).bind fun d S1 => mutR T g d S1 fun S2 => evEs rn es e S2 := by
  simp only [evE]
  rfl
@[simp] theorem evEs_nil (e : Env) (S : Store) : evEs rn .nil e S = .ok [] S := by simp only [evEs]
@[simp] theorem evEs_cons (a : IE) (r : IEs) (e : Env) (S : Store) : evEs rn (.cons a r) e S = (evE rn a e S).bind fun d S1 => (evEs rn r e S1).bind fun ds S2 => .ok (d :: ds) S2 := by simp only [evEs]
/-- one item of a comprehension -/
def cpItem (vs : List Nat) (tg : Tg) (cd elt : IE) (e : Env) (x : P) (S2 : Store) : R (Option P) :=
          match assignTg tg (.p x) S2 (wipeD e vs) with
          | some e1 => (evE rn cd e1 S2).bind fun t S3 =>
            (match trueD t with
            | some true => (evE rn elt e1 S3).bind fun d S4 =>
              (match d with
              | .p y => .ok (some y) S4
              | _ => .no)
            | some false => .ok none S3
            | none => .no)
          | none => .no
def itmP (d : D) (S : Store) : R (Option P) := match d with
  | .p y => .ok (some y) S
  | _ => .no
@[simp] theorem itmP_p (y : P) (S : Store) : itmP (.p y) S = .ok (some y) S := rfl
def itmK (cd elt : IE) (o : Option Env) (S2 : Store) : R (Option P) := match o with
  | some e1 => (evE rn cd e1 S2).bind fun t S3 => boolR t fun c => if c then (evE rn elt e1 S3).bind itmP else .ok none S3
  | none => .no
@[simp] theorem itmK_some (cd elt : IE) (e1 : Env) (S2 : Store) : itmK rn cd elt (some e1) S2 = (evE rn cd e1 S2).bind fun t S3 => boolR t fun c => if c then (evE rn elt e1 S3).bind itmP else .ok none S3 := rfl
theorem cpItem_k (vs : List Nat) (tg : Tg) (cd elt : IE) (e : Env) (x : P) (S2 : Store) : cpItem rn vs tg cd elt e x S2 = itmK rn cd elt (assignTg tg (.p x) S2 (wipeD e vs)) S2 := by
  unfold cpItem itmK
  cases assignTg tg (.p x) S2 (wipeD e vs) with
  | none => rfl
  | some e1 =>
    simp only
    congr 1
    funext t S3
    unfold boolR
    cases trueD t with
    | none => rfl
    | some c => cases c <;> rfl
def chkD (ds : List D) (xs : List P) (S : Store) : Bool := decide (vals S ds = some xs)
def itemsR {β : Type} (f : List P → Option (List P)) (ds : List D) (S : Store) (no : β) (k : List P → List P → β) : β := match vals S ds with
    | some xs => (match f xs with
      | some items => k xs items
      | none => no)
    | none => no
@[simp] theorem evE_comp (vs : List Nat) (tg : Tg) (f : List P → Option (List P)) (es : IEs) (cd elt : IE) (e : Env) (S : Store) : evE rn (.comp vs tg f es cd elt) e S = (evEs rn es e S).bind fun ds S1 =>
    itemsR f ds S1 .no fun xs items => (compL (chkD ds xs) (cpItem rn vs tg cd elt e) items S1).bind fun ys S2 => .ok (.p (.lst ys)) S2 := by
  simp only [evE]
  rfl
def asgR (o : Option Env) (S : Store) : RS := match o with
  | some e => .nx e S
  | none => .no
@[simp] theorem asgR_some (e : Env) (S : Store) : asgR (some e) S = .nx e S := rfl
@[simp] theorem evS_asg (tg : Tg) (a : IE) (e : Env) (S : Store) : evS rn w (.asg tg a) e S = (evE rn a e S).go e fun d S1 => asgR (assignTg tg d S1 e) S1 := by simp only [evS]; rfl
@[simp] theorem evS_expr (a : IE) (e : Env) (S : Store) : evS rn w (.expr a) e S = (evE rn a e S).go e fun _ S1 => .nx e S1 := by simp only [evS]
@[simp] theorem evS_ret (a : IE) (e : Env) (S : Store) : evS rn w (.ret a) e S = (evE rn a e S).go e fun d S1 => .ret d S1 := by simp only [evS]
def boolS (d : D) (k : Bool → RS) : RS := match trueD d with
  | some b => k b
  | none => .no
@[simp] theorem boolS_bl (b : Bool) (k : Bool → RS) : boolS (.p (.bl b)) k = k b := rfl
@[simp] theorem evS_iff (t : IE) (a b : ISs) (e : Env) (S : Store) : evS rn w (.iff t a b) e S = (evE rn t e S).go e fun d S1 => boolS d fun c => if c then evSs rn w a e S1 else evSs rn w b e S1 := by
  simp only [evS]
  congr 1
  funext d S1
  unfold boolS
  cases trueD d with
  | none => rfl
  | some c => cases c <;> rfl
def forItem (tg : Tg) (b : ISs) (x : P) (e1 : Env) (S2 : Store) : RS := match assignTg tg (.p x) S2 e1 with
          | some e2 => evSs rn w b e2 S2
          | none => .no
def forK (b : ISs) (o : Option Env) (S2 : Store) : RS := match o with
  | some e2 => evSs rn w b e2 S2
  | none => .no
@[simp] theorem forK_some (b : ISs) (e : Env) (S : Store) : forK rn w b (some e) S = evSs rn w b e S := rfl
theorem forItem_k (tg : Tg) (b : ISs) (x : P) (e1 : Env) (S2 : Store) : forItem rn w tg b x e1 S2 = forK rn w b (assignTg tg (.p x) S2 e1) S2 := rfl
@[simp] theorem evS_for (tg : Tg) (f : List P → Option (List P)) (es : IEs) (b : ISs) (e : Env) (S : Store) : evS rn w (.for_ tg f es b) e S = (evEs rn es e S).go e fun ds S1 => itemsR f ds S1 .no fun xs items => forL (chkD ds xs) (forItem rn w tg b) items e S1 := by
  simp only [evS]
  rfl
@[simp] theorem evS_whl (t : IE) (b : ISs) (e : Env) (S : Store) : evS rn w (.whl t b) e S = whlL (fun e S => evE rn t e S) (fun e S => evSs rn w b e S) w e S := by simp only [evS]
@[simp] theorem evS_pass (e : Env) (S : Store) : evS rn w .pass e S = .nx e S := by simp only [evS]
@[simp] theorem evS_brk (e : Env) (S : Store) : evS rn w .brk e S = .bk e S := by simp only [evS]
@[simp] theorem evS_cnt (e : Env) (S : Store) : evS rn w .cnt e S = .ct e S := by simp only [evS]
def subR (g : Mu) (v1 d1 k1 : D) (S3 : Store) (e : Env) : RS := match v1, k1 with
    | .p y, .p x => (mutD g d1 [x, y] S3).go e fun _ S4 => .nx e S4
    | _, _ => .no
@[simp] theorem subR_p (g : Mu) (y x : P) (d1 : D) (S3 : Store) (e : Env) : subR g (.p y) d1 (.p x) S3 e = (mutD g d1 [x, y] S3).go e fun _ S4 => .nx e S4 := rfl
@[simp] theorem evS_sub (g : Mu) (a k v : IE) (e : Env) (S : Store) : evS rn w (.sub g a k v) e S = (evE rn v e S).go e fun v1 S1 => (evE rn a e S1).go e fun d1 S2 => (evE rn k e S2).go e fun k1 S3 =>
    subR g v1 d1 k1 S3 e := by simp only [evS]; rfl
/-- what comes behind a statement -/
def RS.thn (r : RS) (k : Env → Store → RS) : RS := match r with
    | .nx e1 S1 => k e1 S1
    | .ret d S1 => .ret d S1
    | .bk e1 S1 => .bk e1 S1
    | .ct e1 S1 => .ct e1 S1
    | .ex c fs e1 S1 => .ex c fs e1 S1
    | .no => .no
theorem RS.thn_congr {r r2 : RS} (k : Env → Store → RS) (h : r = r2) : r.thn k = r2.thn k := h ▸ rfl
@[simp] theorem trueD_bl (b : Bool) : trueD (.p (.bl b)) = some b := rfl
@[simp] theorem val_p (S : Store) (x : P) : val S (.p x) = some x := rfl
@[simp] theorem RS.thn_nx (e : Env) (S : Store) (k : Env → Store → RS) : (RS.nx e S).thn k = k e S := rfl
@[simp] theorem RS.thn_ret (d : D) (S : Store) (k : Env → Store → RS) : (RS.ret d S).thn k = .ret d S := rfl
@[simp] theorem RS.thn_bk (e : Env) (S : Store) (k : Env → Store → RS) : (RS.bk e S).thn k = .bk e S := rfl
@[simp] theorem RS.thn_ct (e : Env) (S : Store) (k : Env → Store → RS) : (RS.ct e S).thn k = .ct e S := rfl
@[simp] theorem RS.thn_no (k : Env → Store → RS) : (RS.no).thn k = .no := rfl
@[simp] theorem RS.thn_ex (c : Nat) (fs : List P) (e : Env) (S : Store) (k : Env → Store → RS) : (RS.ex c fs e S).thn k = .ex c fs e S := rfl
@[simp] theorem evSs_nil (e : Env) (S : Store) : evSs rn w .nil e S = .nx e S := by simp only [evSs]
@[simp] theorem evSs_cons (s : IS) (r : ISs) (e : Env) (S : Store) : evSs rn w (.cons s r) e S = (evS rn w s e S).thn fun e1 S1 => evSs rn w r e1 S1 := by
  simp only [evSs]
  cases evS rn w s e S <;> rfl
end
/-- a def's run -/
theorem run_at {p : Prog} {f : Nat} {fn : Fn} (h : p f = some fn) {k : Nat} {ds : List D} (S : Store) (hl : ds.length = fn.np) : run p (k + 1) f ds S = fin S (evSs (run p k) turnsMost fn.body (ds.map some ++ List.replicate fn.nv none) S) := by
  simp only [run, h, if_pos hl]
@[simp] theorem assignTg_one (i : Nat) (d : D) (S : Store) (e : Env) : assignTg (.one i) d S e = some (e.set i (some d)) := rfl
@[simp] theorem assignTg_tup (is : List Nat) (xs : List P) (S : Store) (e : Env) : assignTg (.many is) (.p (.tup xs)) S e = setMany is xs e := rfl
/-! the store -/
@[simp] theorem vals_nil0 (S : Store) : vals S [] = some [] := rfl
@[simp] theorem vals_p (S : Store) (x : P) (r : List D) : vals S (.p x :: r) = (vals S r).map (x :: ·) := by
  simp only [vals, val]
  cases vals S r <;> rfl
@[simp] theorem vals_ref (S : Store) (l : Nat) (r : List D) : vals S (.ref l :: r) = (S[l]?.bind oval).bind fun x => (vals S r).map (x :: ·) := by
  simp only [vals, val]
  cases S[l]?.bind oval with
  | none => rfl
  | some x => cases vals S r <;> rfl
@[simp] theorem oval_lst (xs : List P) : oval (.lst xs) = some (.lst xs) := rfl
@[simp] theorem oval_dic (kvs : List (P × P)) : oval (.dic kvs) = some (.dic (kvs.map (·.1)) (kvs.map (·.2))) := rfl
@[simp] theorem val_ref (S : Store) (l : Nat) : val S (.ref l) = S[l]?.bind oval := rfl
@[simp] theorem pures_nil : pures [] = some [] := rfl
@[simp] theorem pures_p (x : P) (r : List D) : pures (.p x :: r) = (pures r).map (x :: ·) := by
  simp only [pures]
  cases pures r <;> rfl
@[simp] theorem get_last (A : Store) (o : O) : (A ++ [o])[A.length]? = some o := by simp
@[simp] theorem get_last1 (S : Store) (l : Nat) (o o2 : O) : (S.set l o ++ [o2])[S.length]? = some o2 := by
  rw [List.getElem?_append_right (by simp)]
  simp
@[simp] theorem set_last (A : Store) (o o2 : O) : (A ++ [o]).set A.length o2 = A ++ [o2] := by simp
@[simp] theorem set_last1 (S : Store) (l : Nat) (o o2 o3 : O) : (S.set l o ++ [o2]).set S.length o3 = S.set l o ++ [o3] := by
  rw [List.set_append_right _ _ (by simp)]
  simp
/-- what a change leaves -/
def mutK (S : Store) (l : Nat) : Option (O × P) → R D
  | some (o, y) => .ok (.p y) (S.set l o)
  | none => .no
@[simp] theorem mutK_some (S : Store) (l : Nat) (o : O) (y : P) : mutK S l (some (o, y)) = .ok (.p y) (S.set l o) := rfl
@[simp] theorem mutD_ref (g : Mu) (l : Nat) (xs : List P) (S : Store) : mutD g (.ref l) xs S = mutK S l (S[l]?.bind fun o => g o xs) := by
  unfold mutD mutK
  dsimp only
  cases S[l]? with
  | none => rfl
  | some o =>
    cases hg : g o xs with
    | none => simp [hg]
    | some q => simp [hg]
/-- the end of a def -/
def finK (b : Bool) (r : R D) : R D := if b then r else .no
@[simp] theorem finK_t (r : R D) : finK true r = r := rfl
@[simp] theorem fin_nx (S0 : Store) (e : Env) (S : Store) : fin S0 (.nx e S) = finK (okT S0 S) (.ok (.p .non) (S.take S0.length)) := by simp only [fin, finK]
@[simp] theorem fin_p (S0 : Store) (x : P) (S : Store) : fin S0 (.ret (.p x) S) = finK (okT S0 S) (.ok (.p x) (S.take S0.length)) := by simp only [fin, finK]
def retR (S0 S : Store) (l : Nat) : R D := if l < S0.length then .ok (.ref l) (S.take S0.length) else
    match S[l]? with
    | some (.lst xs) => .ok (.ref S0.length) (S.take S0.length ++ [.lst xs])
    | some (.dic kvs) => .ok (.ref S0.length) (S.take S0.length ++ [.dic kvs])
    | _ => .no
theorem retR_lst {S0 S : Store} {l : Nat} {xs : List P} (h : S0.length ≤ l) (hg : S[l]? = some (.lst xs)) : retR S0 S l = .ok (.ref S0.length) (S.take S0.length ++ [.lst xs]) := by
  unfold retR
  rw [if_neg (by omega), hg]
theorem retR_old {S0 S : Store} {l : Nat} (h : l < S0.length) : retR S0 S l = .ok (.ref l) (S.take S0.length) := by
  unfold retR
  rw [if_pos h]
@[simp] theorem fin_ref (S0 : Store) (l : Nat) (S : Store) : fin S0 (.ret (.ref l) S) = finK (okT S0 S) (retR S0 S l) := by
  simp only [fin, finK, retR]
  try (split <;> rfl)
theorem fin_congr {r r2 : RS} (S0 : Store) (h : r = r2) : fin S0 r = fin S0 r2 := h ▸ rfl
@[simp] theorem chkD_p (x : P) (xs : List P) (S : Store) : chkD [.p x] xs S = decide ([x] = xs) := by simp [chkD, vals, val]
@[simp] theorem chkD_pp (x y : P) (xs : List P) (S : Store) : chkD [.p x, .p y] xs S = decide ([x, y] = xs) := by simp [chkD, vals, val]
@[simp] theorem okT_refl : ∀ S : Store, okT S S = true
  | [] => rfl
  | a :: r => by
    unfold okT
    rw [okT_refl r]
    cases a <;> simp
@[simp] theorem okT_app : ∀ S J : Store, okT S (S ++ J) = true
  | [], J => by simp [okT]
  | a :: r, J => by
    rw [List.cons_append]
    unfold okT
    rw [okT_app r J]
    cases a <;> simp
/-- no object of objects -/
def flatO : O → Bool
  | .dir _ => false
  | _ => true
theorem okT_set : ∀ (S J : Store) (l : Nat) (o : O), flatO o = true → okT S (S.set l o ++ J) = true
  | [], J, l, o, h => by simp [okT]
  | a :: r, J, 0, o, h => by
    simp only [List.set_cons_zero, List.cons_append]
    unfold okT
    rw [okT_app]
    cases o <;> simp_all [flatO]
  | a :: r, J, l + 1, o, h => by
    simp only [List.set_cons_succ, List.cons_append]
    unfold okT
    rw [okT_set r J l o h]
    cases a <;> simp
@[simp] theorem okT_set_lst (S J : Store) (l : Nat) (xs : List P) : okT S (S.set l (.lst xs) ++ J) = true := okT_set S J l _ rfl
@[simp] theorem okT_set_lst0 (S : Store) (l : Nat) (xs : List P) : okT S (S.set l (.lst xs)) = true := by
  have := okT_set S [] l (.lst xs) rfl
  rwa [List.append_nil] at this
/-! ### loops -/
theorem compL_map {chk : Store → Bool} {f : P → Store → R (Option P)} {g : P → P} : ∀ {items : List P} {S : Store}, chk S = true → (∀ x ∈ items, f x S = .ok (some (g x)) S) → compL chk f items S = .ok (items.map g) S
  | [], S, hc, h => by simp [compL, hc]
  | x :: r, S, hc, h => by
    unfold compL
    rw [if_pos hc, h x List.mem_cons_self]
    simp [compL_map hc fun y hy => h y (List.mem_cons_of_mem _ hy)]
theorem compL_filter {chk : Store → Bool} {f : P → Store → R (Option P)} {g : P → Option P} : ∀ {items : List P} {S : Store}, chk S = true → (∀ x ∈ items, f x S = .ok (g x) S) → compL chk f items S = .ok (items.filterMap g) S
  | [], S, hc, h => by simp [compL, hc]
  | x :: r, S, hc, h => by
    unfold compL
    rw [if_pos hc, h x List.mem_cons_self]
    simp only [compL_filter hc fun y hy => h y (List.mem_cons_of_mem _ hy), R.bind_ok, List.filterMap_cons]
    cases g x <;> rfl
/-- a comprehension whose items change the store: I holds of what is made so far -/
theorem compL_inv {chk : Store → Bool} {f : P → Store → R (Option P)} (I : List P → Store → Prop) : ∀ {items ys : List P} {S : Store}, (∀ ys S, I ys S → chk S = true) → I ys S → (∀ x ∈ items, ∀ ys S, I ys S → ∃ o S', f x S = .ok o S' ∧ I (ys ++ o.toList) S') →
    ∃ zs S', compL chk f items S = .ok zs S' ∧ I (ys ++ zs) S'
  | [], ys, S, hc, hi, h => ⟨[], S, by simp [compL, hc ys S hi], by simpa using hi⟩
  | x :: r, ys, S, hc, hi, h => by
    obtain ⟨o, S1, e1, i1⟩ := h x List.mem_cons_self ys S hi
    obtain ⟨zs, S2, e2, i2⟩ := compL_inv I hc i1 fun y hy => h y (List.mem_cons_of_mem _ hy)
    refine ⟨o.toList ++ zs, S2, ?_, by rw [← List.append_assoc]; exact i2⟩
    unfold compL
    rw [if_pos (hc ys S hi), e1]
    simp only [e2, R.bind_ok]
    cases o <;> rfl
/-- the same, each item gives one thing -/
theorem compL_each {chk : Store → Bool} {f : P → Store → R (Option P)} (I : List P → Store → Prop) : ∀ {items ys : List P} {S : Store}, (∀ ys S, I ys S → chk S = true) → I ys S → (∀ (i : Nat) (x : P), items[i]? = some x → ∀ zs S, zs.length = ys.length + i → I zs S → ∃ y S', f x S = .ok (some y) S' ∧ I (zs ++ [y]) S') →
    ∃ zs S', compL chk f items S = .ok zs S' ∧ zs.length = items.length ∧ I (ys ++ zs) S'
  | [], ys, S, hc, hi, h => ⟨[], S, by simp [compL, hc ys S hi], rfl, by simpa using hi⟩
  | x :: r, ys, S, hc, hi, h => by
    obtain ⟨y, S1, e1, i1⟩ := h 0 x rfl ys S rfl hi
    obtain ⟨zs, S2, e2, l2, i2⟩ := compL_each I (items := r) (ys := ys ++ [y]) hc i1 fun i z hz ws S hw hI => h (i + 1) z (by simpa using hz) ws S (by simp at hw; omega) hI
    refine ⟨y :: zs, S2, ?_, by simp [l2], by simpa using i2⟩
    unfold compL
    rw [if_pos (hc ys S hi), e1]
    simp only [e2, R.bind_ok]
/-- a for whose turns go on: I is kept -/
theorem forL_inv {chk : Store → Bool} {f : P → Env → Store → RS} (I : Nat → Env → Store → Prop) : ∀ {items : List P} {n : Nat} {e : Env} {S : Store}, (∀ n e S, I n e S → chk S = true) → I n e S → (∀ (i : Nat) (x : P), items[i]? = some x → ∀ e S, I (n + i) e S → ∃ e' S', (f x e S = .nx e' S' ∨ f x e S = .ct e' S') ∧ I (n + i + 1) e' S') →
    ∃ e' S', forL chk f items e S = .nx e' S' ∧ I (n + items.length) e' S'
  | [], n, e, S, hc, hi, h => ⟨e, S, by simp [forL, hc n e S hi], hi⟩
  | x :: r, n, e, S, hc, hi, h => by
    obtain ⟨e1, S1, q, i1⟩ := h 0 x rfl e S hi
    obtain ⟨e2, S2, q2, i2⟩ := forL_inv I (items := r) (n := n + 1) hc i1 fun i y hy e S hI => by
      have := h (i + 1) y (by simpa using hy) e S (by rw [show n + (i + 1) = n + 1 + i by omega]; exact hI)
      rw [show n + (i + 1) + 1 = n + 1 + i + 1 by omega] at this
      exact this
    refine ⟨e2, S2, ?_, by rw [List.length_cons, show n + (r.length + 1) = n + 1 + r.length by omega]; exact i2⟩
    unfold forL
    rw [if_pos (hc n e S hi)]
    rcases q with q | q <;> rw [q] <;> exact q2
theorem forL_use {chk : Store → Bool} {f : P → Env → Store → RS} {items : List P} {e : Env} {S : Store} {r : RS} (hr : forL chk f items e S = r) (I : Nat → Env → Store → Prop) (hc : ∀ n e S, I n e S → chk S = true) (hi : I 0 e S) (h : ∀ (i : Nat) (x : P), items[i]? = some x → ∀ e S, I i e S → ∃ e' S', (f x e S = .nx e' S' ∨ f x e S = .ct e' S') ∧ I (i + 1) e' S') :
    ∃ e' S', r = .nx e' S' ∧ I items.length e' S' := by
  obtain ⟨e', S', q, i⟩ := forL_inv (n := 0) I hc hi fun i x hx e S hI => by
    simp only [Nat.zero_add] at hI ⊢
    exact h i x hx e S hI
  rw [Nat.zero_add] at i
  exact ⟨e', S', hr ▸ q, i⟩
theorem compL_use {chk : Store → Bool} {f : P → Store → R (Option P)} {items : List P} {S : Store} {r : R (List P)} (hr : compL chk f items S = r) (I : List P → Store → Prop) (hc : ∀ ys S, I ys S → chk S = true) (hi : I [] S) (h : ∀ (i : Nat) (x : P), items[i]? = some x → ∀ zs S, zs.length = i → I zs S → ∃ y S', f x S = .ok (some y) S' ∧ I (zs ++ [y]) S') :
    ∃ zs S', r = .ok zs S' ∧ zs.length = items.length ∧ I zs S' := by
  obtain ⟨zs, S', q, l, i⟩ := compL_each (ys := []) I hc hi fun i x hx zs S hz hI => h i x hx zs S (by simpa using hz) hI
  exact ⟨zs, S', hr ▸ q, l, i⟩
/-- a turn that goes on -/
def Nxt (r : RS) (Q : Env → Store → Prop) : Prop := match r with
  | .nx e S => Q e S
  | .ct e S => Q e S
  | _ => False
@[simp] theorem Nxt_nx (e : Env) (S : Store) (Q : Env → Store → Prop) : Nxt (.nx e S) Q ↔ Q e S := Iff.rfl
@[simp] theorem Nxt_ct (e : Env) (S : Store) (Q : Env → Store → Prop) : Nxt (.ct e S) Q ↔ Q e S := Iff.rfl
theorem Nxt_congr {r r2 : RS} (Q : Env → Store → Prop) (h : r = r2) : Nxt r Q = Nxt r2 Q := h ▸ rfl
/-- an item that gives a thing -/
def Itm (r : R (Option P)) (Q : P → Store → Prop) : Prop := match r with
  | .ok (some y) S => Q y S
  | _ => False
@[simp] theorem Itm_ok (y : P) (S : Store) (Q : P → Store → Prop) : Itm (.ok (some y) S) Q ↔ Q y S := Iff.rfl
theorem Itm_congr {r r2 : R (Option P)} (Q : P → Store → Prop) (h : r = r2) : Itm r Q = Itm r2 Q := h ▸ rfl
theorem forL_elim {C : Prop} {chk : Store → Bool} {f : P → Env → Store → RS} {items : List P} {e : Env} {S : Store} {r : RS} (hr : forL chk f items e S = r) (I : Nat → Env → Store → Prop) (hc : ∀ n e S, I n e S → chk S = true) (hi : I 0 e S) (h : ∀ (i : Nat) (x : P), items[i]? = some x → ∀ e S, I i e S → Nxt (f x e S) (I (i + 1))) (k : ∀ e' S', r = .nx e' S' → I items.length e' S' → C) : C := by
  obtain ⟨e', S', q, i⟩ := forL_use hr I hc hi fun i x hx e S hI => by
    have := h i x hx e S hI
    cases hf : f x e S <;> rw [hf] at this <;> first | exact this.elim | exact ⟨_, _, .inl rfl, this⟩ | exact ⟨_, _, .inr rfl, this⟩
  exact k e' S' q i
theorem compL_elim {C : Prop} {chk : Store → Bool} {f : P → Store → R (Option P)} {items : List P} {S : Store} {r : R (List P)} (hr : compL chk f items S = r) (I : List P → Store → Prop) (hc : ∀ ys S, I ys S → chk S = true) (hi : I [] S) (h : ∀ (i : Nat) (x : P), items[i]? = some x → ∀ zs S, zs.length = i → I zs S → Itm (f x S) fun y S' => I (zs ++ [y]) S')
    (k : ∀ zs S', r = .ok zs S' → zs.length = items.length → I zs S' → C) : C := by
  obtain ⟨zs, S', q, l, i⟩ := compL_use hr I hc hi fun i x hx zs S hz hI => by
    have := h i x hx zs S hz hI
    cases hf : f x S with
    | ok o S1 =>
      rw [hf] at this
      cases o with
      | none => exact this.elim
      | some y => exact ⟨y, S1, rfl, this⟩
    | ex => rw [hf] at this; exact this.elim
    | no => rw [hf] at this; exact this.elim
  exact k zs S' q l i
theorem compL_mapOn {α : Type} {chk : Store → Bool} {f : P → Store → R (Option P)} (emb g : α → P) : ∀ {xs : List α} {S : Store}, chk S = true → (∀ x ∈ xs, f (emb x) S = .ok (some (g x)) S) → compL chk f (xs.map emb) S = .ok (xs.map g) S
  | [], S, hc, h => by simp [compL, hc]
  | x :: r, S, hc, h => by
    rw [List.map_cons]
    unfold compL
    rw [if_pos hc, h x List.mem_cons_self]
    simp [compL_mapOn emb g hc fun y hy => h y (List.mem_cons_of_mem _ hy)]
theorem sIx_nat (n d v : Nat) : sIx' n d (.int (v : Int)) = some (min v n) := by
  simp only [sIx']
  rw [if_neg (by omega)]
  simp
theorem cut_min {α : Type} (xs : List α) (r h : Nat) : cutL xs (min r xs.length) (min (r + h) xs.length) = (xs.drop r).take h := by
  unfold cutL
  by_cases hr : r ≤ xs.length
  · rw [Nat.min_eq_left hr]
    by_cases hh : r + h ≤ xs.length
    · rw [Nat.min_eq_left hh]
      congr 1
      omega
    · rw [Nat.min_eq_right (by omega), List.take_of_length_le (by simp), List.take_of_length_le (by simp; omega)]
  · rw [Nat.min_eq_right (by omega), Nat.min_eq_right (by omega), List.drop_eq_nil_of_le (by omega), List.drop_eq_nil_of_le (by omega)]
    simp
/-- no pairs in it -/
def np (xs : List P) : Bool := xs.all fun x => !isPair x
theorem np_of {xs : List P} (h : np xs = true) : isPairs xs = false := by
  cases xs with
  | nil => rfl
  | cons x r =>
    simp only [np, List.all_cons, Bool.and_eq_true, Bool.not_eq_true'] at h
    simp only [isPairs, h.1, Bool.false_and]
theorem np_sub {xs ys : List P} (h : np ys = true) (hs : ∀ x ∈ xs, x ∈ ys) : np xs = true := List.all_eq_true.mpr fun x hx => List.all_eq_true.mp h x (hs x hx)
theorem np_take {xs : List P} (n : Nat) (h : np xs = true) : np (xs.take n) = true := np_sub h fun x hx => List.mem_of_mem_take hx
theorem np_drop {xs : List P} (n : Nat) (h : np xs = true) : np (xs.drop n) = true := np_sub h fun x hx => List.mem_of_mem_drop hx
theorem np_app {xs ys : List P} (h1 : np xs = true) (h2 : np ys = true) : np (xs ++ ys) = true := by simp only [np, List.all_append, Bool.and_eq_true] at *; exact ⟨h1, h2⟩
theorem np_rep {xs : List P} (k : Nat) (h : np xs = true) : np (List.replicate k xs).flatten = true := np_sub h fun x hx => by
  obtain ⟨ys, h1, h2⟩ := List.mem_flatten.mp hx
  rw [List.eq_of_mem_replicate h1] at h2
  exact h2
@[simp] theorem np_strs : ∀ xs : List (List Nat), np (xs.map .str) = true
  | [] => rfl
  | x :: r => by rw [List.map_cons, np, List.all_cons]; exact np_strs r
/-- a slice from a to a + n, of what is no negative -/
theorem slice_tup (x : List P) (a n : Nat) (h : np x = true := by simp) : sliceP [.tup x, .int a, .int ((a : Int) + n)] = some (.tup ((x.drop a).take n)) := by
  rw [← Int.natCast_add]
  simp only [sliceP, sIx_nat, cut_min]
  exact if_pos (.inl (np_of (np_take n (np_drop a h))))
theorem slice_lst (x : List P) (a n : Nat) : sliceP [.lst x, .int a, .int ((a : Int) + n)] = some (.lst ((x.drop a).take n)) := by
  rw [← Int.natCast_add]
  simp only [sliceP, sIx_nat, cut_min]
theorem slice_str (x : List Nat) (a n : Nat) : sliceP [.str x, .int a, .int ((a : Int) + n)] = some (.str ((x.drop a).take n)) := by
  rw [← Int.natCast_add]
  simp only [sliceP, sIx_nat, cut_min]
theorem cut_to {α : Type} (xs : List α) (n : Nat) : cutL xs 0 (min n xs.length) = xs.take n := by
  have := cut_min xs 0 n
  rwa [Nat.zero_min, Nat.zero_add, List.drop_zero] at this
theorem cut_from {α : Type} (xs : List α) (n : Nat) : cutL xs (min n xs.length) xs.length = xs.drop n := by
  unfold cutL
  rw [List.take_of_length_le (by simp)]
  by_cases h : n ≤ xs.length
  · rw [Nat.min_eq_left h]
  · rw [Nat.min_eq_right (by omega), List.drop_eq_nil_of_le (Nat.le_refl _), List.drop_eq_nil_of_le (by omega)]
theorem sIx_non (n d : Nat) : sIx' n d .non = some d := rfl
theorem slice_tup0 (x : List P) (n : Nat) (h : np x = true := by simp) : sliceP [.tup x, .non, .int n] = some (.tup (x.take n)) := by
  simp only [sliceP, sIx_nat, sIx_non, cut_to]
  exact if_pos (.inl (np_of (np_take n h)))
theorem slice_lst0 (x : List P) (n : Nat) : sliceP [.lst x, .non, .int n] = some (.lst (x.take n)) := by simp only [sliceP, sIx_nat, sIx_non, cut_to]
theorem slice_str0 (x : List Nat) (n : Nat) : sliceP [.str x, .non, .int n] = some (.str (x.take n)) := by simp only [sliceP, sIx_nat, sIx_non, cut_to]
theorem slice_tupE (x : List P) (n : Nat) (h : np x = true := by simp) : sliceP [.tup x, .int n, .non] = some (.tup (x.drop n)) := by
  simp only [sliceP, sIx_nat, sIx_non, cut_from]
  exact if_pos (.inl (np_of (np_drop n h)))
theorem slice_lstE (x : List P) (n : Nat) : sliceP [.lst x, .int n, .non] = some (.lst (x.drop n)) := by simp only [sliceP, sIx_nat, sIx_non, cut_from]
theorem slice_strE (x : List Nat) (n : Nat) : sliceP [.str x, .int n, .non] = some (.str (x.drop n)) := by simp only [sliceP, sIx_nat, sIx_non, cut_from]
theorem eqvs_strs : ∀ xs ys : List (List Nat), P.eqvs (xs.map .str) (ys.map .str) = decide (xs = ys)
  | [], [] => by simp [P.eqvs]
  | [], _ :: _ => by simp [P.eqvs]
  | _ :: _, [] => by simp [P.eqvs]
  | x :: xs, y :: ys => by simp [P.eqvs, P.eqv, eqvs_strs xs ys]
theorem shps_strs (n : Nat) : ∀ xs : List (List Nat), P.shps n (xs.map .str) = true
  | [] => by simp [P.shps]
  | x :: xs => by simp [P.shps, P.shp, shps_strs n xs]
theorem range_sub {H h : Nat} (a : H < 10000) (b : h < 10000) : range1P [.int ((H : Int) - h + 1)] = some (rangeL 0 (H + 1 - h)) := by
  rw [range1P, if_pos (by omega)]
  congr 2
  omega
theorem range_get {n i : Nat} {x : P} (h : (rangeL 0 n)[i]? = some x) : x = .int i ∧ i < n := by
  obtain ⟨a, b⟩ := List.getElem?_eq_some_iff.mp h
  simp [rangeL] at a b
  exact ⟨b.symm, a⟩
@[simp] theorem range_len (lo : Int) (n : Nat) : (rangeL lo n).length = n := by simp [rangeL]
theorem append_at {xs : List P} (y : P) (h : xs.length < 16777216) : appendM (.lst xs) [y] = some (.lst (xs ++ [y]), .non) := by
  simp only [appendM]
  exact if_pos (show xs.length < line from h)
@[simp] theorem gone_new (S : Store) (o : O) : gone S S.length (S ++ [o]) = S := by
  simp [gone]
@[simp] theorem gone_last (S : Store) (o o2 : O) : gone (S ++ [o]) S.length (S ++ [o2]) = S ++ [.dead] := by
  simp [gone]
theorem compL_filterOn {α : Type} {chk : Store → Bool} {f : P → Store → R (Option P)} (emb : α → P) (keep : α → Bool) : ∀ {xs : List α} {S : Store}, chk S = true → (∀ x ∈ xs, f (emb x) S = .ok (if keep x then some (emb x) else none) S) → compL chk f (xs.map emb) S = .ok ((xs.filter keep).map emb) S
  | [], S, hc, h => by simp [compL, hc]
  | x :: r, S, hc, h => by
    rw [List.map_cons]
    unfold compL
    rw [if_pos hc, h x List.mem_cons_self]
    simp only [compL_filterOn emb keep hc fun y hy => h y (List.mem_cons_of_mem _ hy), R.bind_ok]
    cases hk : keep x <;> simp [List.filter_cons, hk]
/-- a for that goes on while g holds, else ends the def -/
theorem forL_allX {chk : Store → Bool} {f : P → Env → Store → RS} (g : P → Bool) (d : D) (E : Env → Prop) {S : Store} (hc : chk S = true) : ∀ {items : List P} {e : Env}, E e → (∀ x ∈ items, ∀ e, E e → ∃ e', E e' ∧ f x e S = if g x then .nx e' S else .ret d S) →
    ∃ e', E e' ∧ forL chk f items e S = if items.all g then .nx e' S else .ret d S
  | [], e, he, h => ⟨e, he, by simp [forL, hc]⟩
  | x :: r, e, he, h => by
    obtain ⟨e1, he1, q1⟩ := h x List.mem_cons_self e he
    obtain ⟨e2, he2, q2⟩ := forL_allX g d E hc (items := r) he1 fun y hy => h y (List.mem_cons_of_mem _ hy)
    refine ⟨e2, he2, ?_⟩
    unfold forL
    rw [if_pos hc, q1]
    cases hg : g x with
    | true => simp [hg, q2]
    | false => simp [hg]
theorem forL_all {C : Prop} {chk : Store → Bool} {f : P → Env → Store → RS} {items : List P} {e : Env} {S : Store} {r : RS} (hr : forL chk f items e S = r) (g : P → Bool) (d : D) (E : Env → Prop) (hc : chk S = true) (he : E e) (h : ∀ x ∈ items, ∀ e, E e → ∃ e', E e' ∧ f x e S = if g x then .nx e' S else .ret d S)
    (k : ∀ e', E e' → (r = if items.all g then .nx e' S else .ret d S) → C) : C := by
  obtain ⟨e', he', q⟩ := forL_allX g d E hc he h
  exact k e' he' (hr ▸ q)
theorem bools_map {α : Type} (g : α → Bool) : ∀ xs : List α, bools (xs.map fun x => P.bl (g x)) = some (xs.map g)
  | [] => rfl
  | x :: r => by rw [List.map_cons, List.map_cons, bools, bools_map g r]
theorem all_map {α : Type} (g : α → Bool) (xs : List α) : allP [.lst (xs.map fun x => P.bl (g x))] = some (.bl (xs.all g)) := by
  simp only [allP, bools_map]
  simp [List.all_map, Function.comp_def]
theorem add_int (a b : Int) : addP [.int a, .int b] = some (.int (a + b)) := rfl
theorem add_str {a b : List Nat} (h : a.length + b.length ≤ 16777216) : addP [.str a, .str b] = some (.str (a ++ b)) := by
  simp only [addP]
  exact if_pos (show a.length + b.length ≤ line from h)
theorem add_tup {a b : List P} (h : a.length + b.length ≤ 16777216) (h1 : np a = true := by simp) (h2 : np b = true := by simp) : addP [.tup a, .tup b] = some (.tup (a ++ b)) := by
  simp only [addP]
  exact if_pos ⟨show a.length + b.length ≤ line from h, .inr (.inr (np_of (np_app h1 h2)))⟩
theorem add_lst {a b : List P} (h : a.length + b.length ≤ 16777216) : addP [.lst a, .lst b] = some (.lst (a ++ b)) := by
  simp only [addP]
  exact if_pos (show a.length + b.length ≤ line from h)
theorem mul_tup {a : List P} {k : Nat} (h0 : a ≠ []) (h1 : 2 ≤ k) (h2 : k ≤ 1000) (h3 : a.length ≤ 1000) (h4 : np a = true := by simp) : mulP [.tup a, .int k] = some (.tup (List.replicate k a).flatten) := by
  simp only [mulP]
  rw [if_pos ⟨h0, by omega, by omega, h3, np_of (np_rep _ h4)⟩]
  rfl
theorem mul_str {a : List Nat} {k : Nat} (h1 : 2 ≤ k) (h2 : k ≤ 1000) (h0 : 1 ≤ a.length) (h3 : a.length ≤ 1000) : mulP [.str a, .int k] = some (.str (List.replicate k a).flatten) := by
  simp only [mulP]
  rw [if_pos ⟨by omega, by omega, h0, h3⟩]
  rfl
theorem slice_tupE1 (x : List P) (n : Nat) (h : np x = true := by simp) : sliceP [.tup x, .int ((n : Int) + 1), .non] = some (.tup (x.drop (n + 1))) := slice_tupE x (n + 1) h
theorem slice_strE1 (x : List Nat) (n : Nat) : sliceP [.str x, .int ((n : Int) + 1), .non] = some (.str (x.drop (n + 1))) := slice_strE x (n + 1)
theorem slice_lstE1 (x : List P) (n : Nat) : sliceP [.lst x, .int ((n : Int) + 1), .non] = some (.lst (x.drop (n + 1))) := slice_lstE x (n + 1)
/-- an index within -/
theorem ix_lst {xs : List P} {v : Int} (h0 : 0 ≤ v) (h1 : v < xs.length) : ∃ y, ixP [.lst xs, .int v] = some y ∧ y ∈ xs := by
  obtain ⟨n, rfl⟩ : ∃ n : Nat, v = n := ⟨v.toNat, by omega⟩
  have hn : n < xs.length := by omega
  exact ⟨xs[n], by simp [ixP, atP, ixN', hn], List.getElem_mem hn⟩
end DL

/-! DV: the evaluator by values: no store, a mutable object stands in the slot of its one name -/
namespace DL
/-- what stands in a slot: data, a mutable object, a caught exception -/
inductive V where
  | p (x : P) | m (o : O) | x (c : Nat) (fs : List P)
abbrev E2 := List (Option V)
/-- what an expression tells: data, the object of a slot, a new object, an exception -/
inductive D2 where
  | p (x : P) | ref (i : Nat) | fr (o : O) | x (c : Nat) (fs : List P)
inductive R2 (α : Type) where
  | ok (a : α) (e : E2) | ex (c : Nat) (fs : List P) (e : E2) | no
inductive S2 where
  | nx (e : E2) | ret (d : D2) (e : E2) | bk (e : E2) | ct (e : E2) | ex (c : Nat) (fs : List P) (e : E2) | no
/-- a def's end, with what its objects are then -/
inductive Q2 where
  | ok (v : V) (os : List O) | ex (c : Nat) (fs : List P) (os : List O) | no
abbrev Rn2 := Nat → List V → Q2
def flatB : O → Bool
  | .lst _ => true
  | .dic _ => true
  | _ => false
def isM : Option (Option V) → Bool
  | some (some (.m _)) => true
  | _ => false
def slotK (e : E2) (i : Nat) : Option (Option V) → R2 D2
  | some (some (.p x)) => .ok (.p x) e
  | some (some (.m _)) => .ok (.ref i) e
  | some (some (.x c fs)) => .ok (.x c fs) e
  | _ => .no
def valK : Option (Option V) → Option P
  | some (some (.m o)) => oval o
  | _ => none
def val2 (e : E2) : D2 → Option P
  | .p x => some x
  | .ref i => valK e[i]?
  | _ => none
def vals2 (e : E2) : List D2 → Option (List P)
  | [] => some []
  | d :: r => match val2 e d, vals2 e r with
    | some x, some xs => some (x :: xs)
    | _, _ => none
def pures2 : List D2 → Option (List P)
  | [] => some []
  | .p x :: r => match pures2 r with
    | some xs => some (x :: xs)
    | none => none
  | _ :: _ => none
def liftK (e : E2) : Option P → R2 D2
  | some y => .ok (.p y) e
  | none => .no
def opY (f : List P → Option P) : R2 (List D2) → R2 D2
  | .ok ds e => liftK e ((vals2 e ds).bind f)
  | .ex c fs e => .ex c fs e
  | .no => .no
def pkY (f : List P → Option P) : R2 (List D2) → R2 D2
  | .ok ds e => liftK e ((pures2 ds).bind f)
  | .ex c fs e => .ex c fs e
  | .no => .no
def consK2 (d : D2) : R2 (List D2) → R2 (List D2)
  | .ok ds e => .ok (d :: ds) e
  | .ex c fs e => .ex c fs e
  | .no => .no
def consK (k : E2 → R2 (List D2)) : R2 D2 → R2 (List D2)
  | .ok d e => consK2 d (k e)
  | .ex c fs e => .ex c fs e
  | .no => .no
def oneF (k : E2 → R2 D2) (e : E2) : R2 (List D2) := consK (fun e => .ok [] e) (k e)
def twoF (k j : E2 → R2 D2) (e : E2) : R2 (List D2) := consK (oneF j) (k e)
/-- a call's arguments -/
def argV (e : E2) : List D2 → Option (List V)
  | [] => some []
  | .p x :: r => (argV e r).map (.p x :: ·)
  | .x c fs :: r => (argV e r).map (.x c fs :: ·)
  | .fr o :: r => (argV e r).map (.m o :: ·)
  | .ref i :: r => match e[i]? with
    | some (some (.m o)) => (argV e r).map (.m o :: ·)
    | _ => none
def refsOf : List D2 → List Nat
  | [] => []
  | .ref i :: r => i :: refsOf r
  | _ :: r => refsOf r
/-- what the call leaves of the objects -/
def wbE : List D2 → List O → E2 → Option E2
  | [], [], e => some e
  | .p _ :: r, os, e => wbE r os e
  | .x _ _ :: r, os, e => wbE r os e
  | .fr _ :: r, _ :: os, e => wbE r os e
  | .ref i :: r, o :: os, e => wbE r os (e.set i (some (.m o)))
  | _, _, _ => none
def outK (d : Option D2) (x : Option (Nat × List P)) : Option E2 → R2 D2
  | some e => match d, x with
    | some d, _ => .ok d e
    | none, some (c, fs) => .ex c fs e
    | _, _ => .no
  | none => .no
def toD : V → Option D2
  | .p x => some (.p x)
  | .m o => some (.fr o)
  | .x _ _ => none
def endK (ds : List D2) (e : E2) : Q2 → R2 D2
  | .ok v os => outK (toD v) none (wbE ds os e)
  | .ex c fs os => outK none (some (c, fs)) (wbE ds os e)
  | .no => .no
def runK (rn : List V → Q2) (ds : List D2) (e : E2) : Option (List V) → R2 D2
  | some vs => endK ds e (rn vs)
  | none => .no
def callK (rn : List V → Q2) : R2 (List D2) → R2 D2
  | .ok ds e => if (refsOf ds).Nodup then runK rn ds e (argV e ds) else .no
  | .ex c fs e => .ex c fs e
  | .no => .no
def boolK {α : Type} (no : α) (t f : α) : D2 → α
  | .p (.bl true) => t
  | .p (.bl false) => f
  | _ => no
def andK (k : E2 → R2 D2) : R2 D2 → R2 D2
  | .ok d e => boolK .no (k e) (.ok (.p (.bl false)) e) d
  | .ex c fs e => .ex c fs e
  | .no => .no
def orK (k : E2 → R2 D2) : R2 D2 → R2 D2
  | .ok d e => boolK .no (.ok (.p (.bl true)) e) (k e) d
  | .ex c fs e => .ex c fs e
  | .no => .no
def notK : R2 D2 → R2 D2
  | .ok d e => boolK .no (.ok (.p (.bl false)) e) (.ok (.p (.bl true)) e) d
  | .ex c fs e => .ex c fs e
  | .no => .no
def iteK (k j : E2 → R2 D2) : R2 D2 → R2 D2
  | .ok d e => boolK .no (k e) (j e) d
  | .ex c fs e => .ex c fs e
  | .no => .no
def chainE (g : P → P → Option Bool) (y : P) : R2 D2 → R2 D2
  | .ok (.p z) e => liftK e ((g y z).map .bl)
  | .ex c fs e => .ex c fs e
  | _ => .no
def chainB (g : P → P → Option Bool) (k : E2 → R2 D2) (y : P) (e : E2) : Option Bool → R2 D2
  | some true => chainE g y (k e)
  | some false => .ok (.p (.bl false)) e
  | none => .no
def chainK (f g : P → P → Option Bool) (k : E2 → R2 D2) : R2 (List D2) → R2 D2
  | .ok [.p x, .p y] e => chainB g k y e (f x y)
  | .ex c fs e => .ex c fs e
  | _ => .no
def partK : R2 D2 → R2 D2
  | .ok (.p (.int i)) e => .ok (.p (.int i)) e
  | .ex c fs e => .ex c fs e
  | _ => .no
def isxK (hits : Nat → Bool) : R2 D2 → R2 D2
  | .ok (.x c _) e => .ok (.p (.bl (hits c))) e
  | .ex c fs e => .ex c fs e
  | _ => .no
def fldK (g : Nat → Option Nat) : R2 D2 → R2 D2
  | .ok (.x c fs) e => liftK e ((g c).bind fun k => fs[k]?)
  | .ex c fs e => .ex c fs e
  | _ => .no
def newK : R2 D2 → R2 D2
  | .ok (.p (.lst xs)) e => .ok (.fr (.lst xs)) e
  | .ok (.p (.dic ks vs)) e => .ok (.fr (.dic (ks.zip vs))) e
  | .ex c fs e => .ex c fs e
  | _ => .no
def frzS (np i : Nat) (e : E2) : Option (Option V) → R2 D2
  | some (some (.m (.lst xs))) => if np ≤ i then .ok (.p (.lst xs)) (e.set i none) else .no
  | some (some (.m (.dic kvs))) => if np ≤ i then .ok (.p (.dic (kvs.map (·.1)) (kvs.map (·.2)))) (e.set i none) else .no
  | _ => .no
def frzK (np : Nat) : R2 D2 → R2 D2
  | .ok (.p x) e => .ok (.p x) e
  | .ok (.fr (.lst xs)) e => .ok (.p (.lst xs)) e
  | .ok (.fr (.dic kvs)) e => .ok (.p (.dic (kvs.map (·.1)) (kvs.map (·.2)))) e
  | .ok (.ref i) e => frzS np i e e[i]?
  | .ex c fs e => .ex c fs e
  | _ => .no
def methT (T : P → Bool) (r : R2 D2) : Option P → R2 D2
  | some x => if T x then r else .no
  | none => .no
def methK (T : P → Bool) (f : List P → Option P) (k : E2 → R2 (List D2)) : R2 D2 → R2 D2
  | .ok d e => methT T (opY f (consK2 d (k e))) (val2 e d)
  | .ex c fs e => .ex c fs e
  | .no => .no
def mutF (i : Nat) (e : E2) : Option (O × P) → R2 D2
  | some (o, y) => if flatB o then .ok (.p y) (e.set i (some (.m o))) else .no
  | none => .no
def mutV (g : Mu) (xs : List P) : Option (Option V) → Option (O × P)
  | some (some (.m o)) => g o xs
  | _ => none
def mutS (g : Mu) (i : Nat) (e : E2) : Option (List P) → R2 D2
  | some xs => mutF i e (mutV g xs e[i]?)
  | none => .no
def mutE (g : Mu) (i : Nat) : R2 (List D2) → R2 D2
  | .ok ds e => mutS g i e (pures2 ds)
  | .ex c fs e => .ex c fs e
  | .no => .no
def mutK2 (T : P → Bool) (g : Mu) (k : E2 → R2 (List D2)) : R2 D2 → R2 D2
  | .ok (.ref i) e => methT T (mutE g i (k e)) (valK e[i]?)
  | .ex c fs e => .ex c fs e
  | _ => .no
/-- a slot that may be written: no parameter's object stands there -/
def freeS (np : Nat) (e : E2) (i : Nat) : Bool := decide (np ≤ i) || !isM e[i]?
def setMany2 (np : Nat) : List Nat → List P → E2 → Option E2
  | [], [], e => some e
  | i :: is, x :: xs, e => if freeS np e i then setMany2 np is xs (e.set i (some (.p x))) else none
  | _, _, _ => none
def assignTg2 (np : Nat) : Tg → D2 → E2 → Option E2
  | .one i, .p x, e => if freeS np e i then some (e.set i (some (.p x))) else none
  | .one i, .fr o, e => if freeS np e i then some (e.set i (some (.m o))) else none
  | .one i, .x c fs, e => if freeS np e i then some (e.set i (some (.x c fs))) else none
  | .many is, .p (.tup xs), e => setMany2 np is xs e
  | _, _, _ => none
def wipe2 (e : E2) : List Nat → E2
  | [] => e
  | v :: vs => (wipe2 e vs).set v none
def back2 (e0 e : E2) : List Nat → E2
  | [] => e
  | v :: vs => (back2 e0 e vs).set v (e0[v]?.getD none)
def tgIn : Tg → List Nat → Bool
  | .one i, vs => decide (i ∈ vs)
  | .many is, vs => is.all fun i => decide (i ∈ vs)
def okVs (tg : Tg) (vs : List Nat) (e : E2) : Bool := tgIn tg vs && vs.all fun i => !isM e[i]?
def chkD2 (ds : List D2) (xs : List P) (e : E2) : Bool := decide (vals2 e ds = some xs)
def compL2 (chk : E2 → Bool) (f : P → E2 → R2 (Option P)) : List P → E2 → R2 (List P)
  | [], e => if chk e then .ok [] e else .no
  | x :: r, e => if chk e then (match f x e with
    | .ok o e1 => (match compL2 chk f r e1 with
      | .ok ys e2 => .ok (match o with | some y => y :: ys | none => ys) e2
      | _ => .no)
    | _ => .no) else .no
def itmP2 : R2 D2 → R2 (Option P)
  | .ok (.p y) e => .ok (some y) e
  | _ => .no
def itmK2 (k : E2 → R2 D2) : R2 D2 → R2 (Option P)
  | .ok d e => boolK .no (itmP2 (k e)) (.ok none e) d
  | _ => .no
def backK (vs : List Nat) (e0 : E2) : R2 (Option P) → R2 (Option P)
  | .ok o e => .ok o (back2 e0 e vs)
  | _ => .no
def cpK (cd elt : E2 → R2 D2) (vs : List Nat) (e0 : E2) : Option E2 → R2 (Option P)
  | some e => backK vs e0 (itmK2 elt (cd e))
  | none => .no
def cpItem2 (np : Nat) (vs : List Nat) (tg : Tg) (cd elt : E2 → R2 D2) (x : P) (e : E2) : R2 (Option P) := if okVs tg vs e then cpK cd elt vs e (assignTg2 np tg (.p x) (wipe2 e vs)) else .no
def lstK : R2 (List P) → R2 D2
  | .ok ys e => .ok (.p (.lst ys)) e
  | .ex c fs e => .ex c fs e
  | .no => .no
def itemsY {β : Type} (no : β) (f : List P → Option (List P)) (k : List P → List P → β) : Option (List P) → β
  | some xs => match f xs with
    | some items => k xs items
    | none => no
  | none => no
def compK (item : P → E2 → R2 (Option P)) (f : List P → Option (List P)) : R2 (List D2) → R2 D2
  | .ok ds e => itemsY .no f (fun xs items => lstK (compL2 (chkD2 ds xs) item items e)) (vals2 e ds)
  | .ex c fs e => .ex c fs e
  | .no => .no
def forL2 (chk : E2 → Bool) (f : P → E2 → S2) : List P → E2 → S2
  | [], e => if chk e then .nx e else .no
  | x :: r, e => if chk e then
      match f x e with
      | .nx e1 => forL2 chk f r e1
      | .ct e1 => forL2 chk f r e1
      | .bk e1 => .nx e1
      | .ret d e1 => .ret d e1
      | .ex c fs e1 => .ex c fs e1
      | .no => .no
    else .no
def seqK (k : E2 → S2) : S2 → S2
  | .nx e => k e
  | .ret d e => .ret d e
  | .bk e => .bk e
  | .ct e => .ct e
  | .ex c fs e => .ex c fs e
  | .no => .no
def whlN (k : E2 → S2) : S2 → S2
  | .nx e => k e
  | .ct e => k e
  | .bk e => .nx e
  | .ret d e => .ret d e
  | .ex c fs e => .ex c fs e
  | .no => .no
def whlB (k f : E2 → S2) : R2 D2 → S2
  | .ok d e => boolK .no (whlN k (f e)) (.nx e) d
  | .ex c fs e => .ex c fs e
  | .no => .no
def whlL2 (c : E2 → R2 D2) (f : E2 → S2) : Nat → E2 → S2
  | 0, _ => .no
  | n + 1, e => whlB (whlL2 c f n) f (c e)
def asgO : Option E2 → S2
  | some e => .nx e
  | none => .no
def asgK (np : Nat) (tg : Tg) : R2 D2 → S2
  | .ok d e => asgO (assignTg2 np tg d e)
  | .ex c fs e => .ex c fs e
  | .no => .no
def exprK : R2 D2 → S2
  | .ok _ e => .nx e
  | .ex c fs e => .ex c fs e
  | .no => .no
def retK : R2 D2 → S2
  | .ok d e => .ret d e
  | .ex c fs e => .ex c fs e
  | .no => .no
def iffK (k j : E2 → S2) : R2 D2 → S2
  | .ok d e => boolK .no (k e) (j e) d
  | .ex c fs e => .ex c fs e
  | .no => .no
mutual
/-- the slot is not written -/
def nasg (i : Nat) : IS → Bool
  | .asg (.one j) _ => decide (j ≠ i)
  | .asg (.many js) _ => !decide (i ∈ js)
  | .iff _ a b => nasgs i a && nasgs i b
  | .for_ (.one j) _ _ b => decide (j ≠ i) && nasgs i b
  | .for_ (.many js) _ _ b => !decide (i ∈ js) && nasgs i b
  | .whl _ b => nasgs i b
  | .try_ _ _ _ _ => false
  | _ => true
def nasgs (i : Nat) : ISs → Bool
  | .nil => true
  | .cons s r => nasg i s && nasgs i r
end
def tgFree (i : Nat) : Tg → Bool
  | .one j => decide (j ≠ i)
  | .many js => !decide (i ∈ js)
def walkOk (tg : Tg) (b : ISs) : List D2 → Bool
  | [] => true
  | .ref i :: r => tgFree i tg && nasgs i b && walkOk tg b r
  | _ :: r => walkOk tg b r
def forA (f : E2 → S2) : Option E2 → S2
  | some e => f e
  | none => .no
def forItem2 (np : Nat) (tg : Tg) (f : E2 → S2) (x : P) (e : E2) : S2 := forA f (assignTg2 np tg (.p x) e)
def forK2 (np : Nat) (tg : Tg) (b : ISs) (f : List P → Option (List P)) (k : E2 → S2) : R2 (List D2) → S2
  | .ok ds e => if walkOk tg b ds then itemsY .no f (fun xs items => forL2 (chkD2 ds xs) (forItem2 np tg k) items e) (vals2 e ds) else .no
  | .ex c fs e => .ex c fs e
  | .no => .no
def subK (g : Mu) : R2 (List D2) → S2
  | .ok [.p y, .ref i, .p x] e => exprK (mutS g i e (some [x, y]))
  | .ex c fs e => .ex c fs e
  | _ => .no
def raiseS (c : Nat) (e : E2) : Option (List P) → S2
  | some xs => .ex c xs.reverse e
  | none => .no
def raiseK (c : Nat) : R2 (List D2) → S2
  | .ok ds e => raiseS c e (pures2 ds)
  | .ex c fs e => .ex c fs e
  | .no => .no
def clr2 : Option V → Option V
  | some (.x _ _) => none
  | x => x
def clearX2 : E2 → E2
  | [] => []
  | a :: r => clr2 a :: clearX2 r
def clrY (np : Nat) (k : E2 → S2) (slot : Option Nat) (e : E2) : S2 := match slot with
  | none => k e
  | some i => if freeS np e i then k (e.set i none) else .no
def noExc2 : D2 → Bool
  | .x _ _ => false
  | _ => true
/-- the end of an except suite -/
def suite2 (np : Nat) (slot : Option Nat) : S2 → S2
  | .nx e => clrY np .nx slot (clearX2 e)
  | .bk e => clrY np .bk slot (clearX2 e)
  | .ct e => clrY np .ct slot (clearX2 e)
  | .ret d e => if noExc2 d then .ret d e else .no
  | _ => .no
def catchK (np : Nat) (slot : Option Nat) (h : E2 → S2) (c : Nat) (fs : List P) (e : E2) : S2 := match slot with
  | none => suite2 np none (h e)
  | some i => if freeS np e i then suite2 np (some i) (h (e.set i (some (.x c fs)))) else .no
def tryK (np : Nat) (hits : Nat → Bool) (slot : Option Nat) (h : E2 → S2) : S2 → S2
  | .ex c fs e => if hits c then catchK np slot h c fs e else .ex c fs e
  | r => r
section
variable (rn : Rn2) (w np : Nat)
mutual
def evE2 : IE → E2 → R2 D2
  | .c x, e => .ok (.p x) e
  | .v i, e => slotK e i e[i]?
  | .op f es, e => opY f (evEs2 es e)
  | .pk f es, e => pkY f (evEs2 es e)
  | .call f es, e => callK (rn f) (evEs2 es e)
  | .and_ a b, e => andK (evE2 b) (evE2 a e)
  | .or_ a b, e => orK (evE2 b) (evE2 a e)
  | .not_ a, e => notK (evE2 a e)
  | .ite t a b, e => iteK (evE2 a) (evE2 b) (evE2 t e)
  | .chain f g a b c, e => chainK f g (evE2 c) (consK (oneF (evE2 b)) (evE2 a e))
  | .comp vs tg f es cd elt, e => compK (cpItem2 np vs tg (evE2 cd) (evE2 elt)) f (evEs2 es e)
  | .part a, e => partK (evE2 a e)
  | .new a, e => newK (evE2 a e)
  | .frz a, e => frzK np (evE2 a e)
  | .meth T f a es, e => methK T f (evEs2 es) (evE2 a e)
  | .mut T g a es, e => mutK2 T g (evEs2 es) (evE2 a e)
  | .getr _ _, _ => .no
  | .isx hits a, e => isxK hits (evE2 a e)
  | .fld g a, e => fldK g (evE2 a e)
def evEs2 : IEs → E2 → R2 (List D2)
  | .nil, e => .ok [] e
  | .cons a r, e => consK (evEs2 r) (evE2 a e)
end
mutual
def evS2 : IS → E2 → S2
  | .asg tg a, e => asgK np tg (evE2 rn np a e)
  | .expr a, e => exprK (evE2 rn np a e)
  | .ret a, e => retK (evE2 rn np a e)
  | .iff t a b, e => iffK (evSs2 a) (evSs2 b) (evE2 rn np t e)
  | .for_ tg f es b, e => forK2 np tg b f (evSs2 b) (evEs2 rn np es e)
  | .whl t b, e => whlL2 (evE2 rn np t) (evSs2 b) w e
  | .pass, e => .nx e
  | .brk, e => .bk e
  | .cnt, e => .ct e
  | .sub g a k v, e => subK g (consK (twoF (evE2 rn np a) (evE2 rn np k)) (evE2 rn np v e))
  | .putr _ _ _, _ => .no
  | .raise c es, e => raiseK c (evEs2 rn np es e)
  | .try_ b hits slot h, e => tryK np hits slot (evSs2 h) (evSs2 b e)
def evSs2 : ISs → E2 → S2
  | .nil, e => .nx e
  | .cons s r, e => seqK (evSs2 r) (evS2 s e)
end
end
/-- what a def leaves of its parameters' objects -/
def outs : List V → E2 → Option (List O)
  | [], _ => some []
  | .m _ :: r, some (.m o) :: e => (outs r e).map (o :: ·)
  | .m _ :: _, _ => none
  | .p _ :: r, _ :: e => outs r e
  | .x _ _ :: r, _ :: e => outs r e
  | _ :: _, [] => none
def finV (v : V) : Option (List O) → Q2
  | some os => .ok v os
  | none => .no
def finX (c : Nat) (fs : List P) : Option (List O) → Q2
  | some os => .ex c fs os
  | none => .no
def finR (vs : List V) (i : Nat) (e : E2) : Option (Option V) → Q2
  | some (some (.m o)) => if vs.length ≤ i ∧ flatB o then finV (.m o) (outs vs e) else .no
  | _ => .no
def fin2 (vs : List V) : S2 → Q2
  | .nx e => finV (.p .non) (outs vs e)
  | .ret (.p x) e => finV (.p x) (outs vs e)
  | .ret (.fr o) e => if flatB o then finV (.m o) (outs vs e) else .no
  | .ret (.ref i) e => finR vs i e e[i]?
  | .ex c fs e => finX c fs (outs vs e)
  | _ => .no
def run2 (p : Prog) : Nat → Rn2
  | 0, _, _ => .no
  | k + 1, f, vs => match p f with
    | some fn => if vs.length = fn.np then fin2 vs (evSs2 (run2 p k) turnsMost fn.np fn.body (vs.map some ++ List.replicate fn.nv none)) else .no
    | none => .no
end DL

/-! DVS: what the evaluator by values tells, the evaluator over a store tells -/
namespace DL
theorem isM_iff {v : Option (Option V)} : isM v = true ↔ ∃ o, v = some (some (V.m o)) := by
  constructor
  · intro h
    match v, h with
    | some (some (.m o)), _ => exact ⟨o, rfl⟩
  · rintro ⟨o, rfl⟩
    rfl
structure OwnAt (e2 : E2) (e : Env) (i l : Nat) : Prop where
  a : isM e2[i]? = true
  b : e[i]? = some (some (D.ref l))
def Own (e2 : E2) (e : Env) (l : Nat) : Prop := ∃ i, OwnAt e2 e i l
structure Sim (e2 : E2) (e : Env) (S : Store) : Prop where
  len : e2.length = e.length
  p : ∀ (i : Nat) (x : P), e2[i]? = some (some (V.p x)) → e[i]? = some (some (D.p x))
  x : ∀ (i c : Nat) (fs : List P), e2[i]? = some (some (V.x c fs)) → e[i]? = some (some (D.exc c fs))
  m : ∀ (i : Nat) (o : O), e2[i]? = some (some (V.m o)) → ∃ l, e[i]? = some (some (D.ref l)) ∧ S[l]? = some o ∧ flatB o = true
  inj : ∀ (i j l : Nat), OwnAt e2 e i l → OwnAt e2 e j l → i = j
theorem Sim.own_lt {e2 : E2} {e : Env} {S : Store} (h : Sim e2 e S) {l : Nat} (q : Own e2 e l) : l < S.length := by
  obtain ⟨i, q1, q2⟩ := q
  obtain ⟨o, q1⟩ := isM_iff.mp q1
  obtain ⟨l', a, b, c⟩ := h.m i o q1
  rw [q2] at a
  cases a
  exact (List.getElem?_eq_some_iff.mp b).1
structure Frm (np : Nat) (e2 : E2) (e : Env) (S : Store) (e2' : E2) (e' : Env) (S' : Store) : Prop where
  len : S.length ≤ S'.length
  old : ∀ (l : Nat), l < S.length → S'[l]? = S[l]? ∨ (Own e2 e l ∧ ∃ o, S'[l]? = some o ∧ ∀ kvs, o ≠ O.dir kvs)
  own : ∀ (l : Nat), Own e2' e' l → Own e2 e l ∨ S.length ≤ l
  par : ∀ (i : Nat), i < np → isM e2[i]? = true → isM e2'[i]? = true ∧ e'[i]? = e[i]?
theorem Frm.refl {np : Nat} {e2 : E2} {e : Env} {S : Store} : Frm np e2 e S e2 e S := ⟨Nat.le_refl _, fun l h => .inl rfl, fun l h => .inl h, fun i h q => ⟨q, rfl⟩⟩
theorem Frm.trans {np : Nat} {e2 e2' e2'' : E2} {e e' e'' : Env} {S S' S'' : Store} (f : Frm np e2 e S e2' e' S') (g : Frm np e2' e' S' e2'' e'' S'') : Frm np e2 e S e2'' e'' S'' where
  len := Nat.le_trans f.len g.len
  old l h := by
    rcases g.old l (Nat.lt_of_lt_of_le h f.len) with q | ⟨q, r⟩
    · rw [q]
      exact f.old l h
    · rcases f.own l q with q | q
      · exact .inr ⟨q, r⟩
      · omega
  own l h := by
    rcases g.own l h with q | q
    · exact f.own l q
    · exact .inr (Nat.le_trans f.len q)
  par i h q := by
    obtain ⟨a, b⟩ := f.par i h q
    obtain ⟨c, d⟩ := g.par i h a
    exact ⟨c, d.trans b⟩
theorem Frm.same {np : Nat} {e2 e2' : E2} {e e' : Env} {S S' : Store} (f : Frm np e2 e S e2' e' S') {l : Nat} (h : l < S.length) (n : ¬ Own e2 e l) : S'[l]? = S[l]? := by
  rcases f.old l h with q | ⟨q, _⟩
  · exact q
  · exact (n q).elim
/-- an expression's frame: the slots are the same -/
structure EFrm (np : Nat) (e2 : E2) (e : Env) (S : Store) (e2' : E2) (S' : Store) : Prop where
  f : Frm np e2 e S e2' e S'
  sub : ∀ (i : Nat), isM e2'[i]? = true → isM e2[i]? = true
theorem EFrm.refl {np : Nat} {e2 : E2} {e : Env} {S : Store} : EFrm np e2 e S e2 S := ⟨.refl, fun i h => h⟩
theorem EFrm.trans {np : Nat} {e2 e2' e2'' : E2} {e : Env} {S S' S'' : Store} (f : EFrm np e2 e S e2' S') (g : EFrm np e2' e S' e2'' S'') : EFrm np e2 e S e2'' S'' := ⟨f.f.trans g.f, fun i h => f.sub i (g.sub i h)⟩
theorem EFrm.own {np : Nat} {e2 e2' : E2} {e : Env} {S S' : Store} (f : EFrm np e2 e S e2' S') {l : Nat} (h : Own e2' e l) : Own e2 e l := by
  obtain ⟨i, a, b⟩ := h
  exact ⟨i, f.sub i a, b⟩
/-- what is told -/
def RelD (e : Env) (B : Nat) (S' : Store) : D2 → D → Prop
  | .p x, d => d = .p x
  | .x c fs, d => d = .exc c fs
  | .ref i, d => ∃ l, d = .ref l ∧ e[i]? = some (some (D.ref l))
  | .fr o, d => ∃ l, d = .ref l ∧ B ≤ l ∧ S'[l]? = some o ∧ flatB o = true
def frL : List D2 → List D → List Nat
  | .fr _ :: r, .ref l :: s => l :: frL r s
  | _ :: r, _ :: s => frL r s
  | _, _ => []
def RelDs (e : Env) (B : Nat) (S' : Store) : List D2 → List D → Prop
  | [], [] => True
  | a :: r, d :: s => RelD e B S' a d ∧ (∀ o l, a = .fr o → d = .ref l → l ∉ frL r s) ∧ RelDs e B S' r s
  | _, _ => False
theorem RelD.mono {e : Env} {B B' : Nat} {S : Store} (h : B ≤ B') : ∀ {a : D2} {d : D}, RelD e B' S a d → RelD e B S a d
  | .p x, d, q => q
  | .x c fs, d, q => q
  | .ref i, d, q => q
  | .fr o, d, ⟨l, a, b, c⟩ => ⟨l, a, Nat.le_trans h b, c⟩
theorem RelDs.mono {e : Env} {B B' : Nat} {S : Store} (h : B ≤ B') : ∀ {a : List D2} {d : List D}, RelDs e B' S a d → RelDs e B S a d
  | [], [], q => trivial
  | a :: r, d :: s, ⟨q1, q2, q3⟩ => ⟨q1.mono h, q2, q3.mono h⟩
  | [], _ :: _, q => q.elim
  | _ :: _, [], q => q.elim
theorem RelDs.fr_ge {e : Env} {B : Nat} {S : Store} : ∀ {a : List D2} {d : List D}, RelDs e B S a d → ∀ l, l ∈ frL a d → B ≤ l
  | [], [], _, l, h => by simp [frL] at h
  | [], _ :: _, q, _, _ => q.elim
  | _ :: _, [], q, _, _ => q.elim
  | .p x :: r, d :: s, ⟨q1, q2, q3⟩, l, h => q3.fr_ge l (by cases d <;> simpa [frL] using h)
  | .x c fs :: r, d :: s, ⟨q1, q2, q3⟩, l, h => q3.fr_ge l (by cases d <;> simpa [frL] using h)
  | .ref i :: r, d :: s, ⟨q1, q2, q3⟩, l, h => q3.fr_ge l (by cases d <;> simpa [frL] using h)
  | .fr o :: r, d :: s, ⟨q1, q2, q3⟩, l, h => by
    obtain ⟨l', rfl, hb, _⟩ := q1
    simp only [frL, List.mem_cons] at h
    rcases h with rfl | h
    · exact hb
    · exact q3.fr_ge l h
/-- an end of an expression -/
def RelR {α β : Type} (np : Nat) (e2 : E2) (e : Env) (S : Store) (Q : Store → α → β → Prop) : R2 α → R β → Prop
  | .no, _ => True
  | .ok a e2', r => ∃ b S', r = .ok b S' ∧ Sim e2' e S' ∧ EFrm np e2 e S e2' S' ∧ Q S' a b
  | .ex c fs e2', r => ∃ S', r = .ex c fs S' ∧ Sim e2' e S' ∧ EFrm np e2 e S e2' S'
theorem RelR.rebase {α β : Type} {np : Nat} {e2 e2' : E2} {e : Env} {S S' : Store} {Q Q' : Store → α → β → Prop} {r2 : R2 α} {r : R β} (h : RelR np e2' e S' Q' r2 r) (f : EFrm np e2 e S e2' S')
    (hq : ∀ S'' e2'' a b, EFrm np e2' e S' e2'' S'' → Q' S'' a b → Q S'' a b) : RelR np e2 e S Q r2 r := by
  cases r2 with
  | no => trivial
  | ex c fs e2'' =>
    obtain ⟨S'', q, s, g⟩ := h
    exact ⟨S'', q, s, f.trans g⟩
  | ok a e2'' =>
    obtain ⟨b, S'', q, s, g, k⟩ := h
    exact ⟨b, S'', q, s, f.trans g, hq S'' e2'' a b g k⟩
theorem RelR.bind {α β γ δ : Type} {np : Nat} {e2 : E2} {e : Env} {S : Store} {Q : Store → α → β → Prop} {Q' : Store → γ → δ → Prop} {r2 : R2 α} {r : R β} (h : RelR np e2 e S Q r2 r) (K : R2 α → R2 γ) (k : β → Store → R δ)
    (hn : K .no = .no) (hx : ∀ c fs e, K (.ex c fs e) = .ex c fs e) (hk : ∀ a e2' b S', Sim e2' e S' → EFrm np e2 e S e2' S' → Q S' a b → RelR np e2 e S Q' (K (.ok a e2')) (k b S')) : RelR np e2 e S Q' (K r2) (r.bind k) := by
  cases r2 with
  | no => rw [hn]; trivial
  | ex c fs e2' =>
    obtain ⟨S', rfl, s, f⟩ := h
    rw [hx]
    exact ⟨S', rfl, s, f⟩
  | ok a e2' =>
    obtain ⟨b, S', rfl, s, f, q⟩ := h
    exact hk a e2' b S' s f q
theorem RelR.ret {α β : Type} {np : Nat} {e2 e2' : E2} {e : Env} {S S' : Store} {Q : Store → α → β → Prop} {a : α} {b : β} (s : Sim e2' e S') (f : EFrm np e2 e S e2' S') (q : Q S' a b) : RelR np e2 e S Q (.ok a e2') (.ok b S') := ⟨b, S', rfl, s, f, q⟩
theorem val_sim {e2 : E2} {e : Env} {B : Nat} {S : Store} (s : Sim e2 e S) : ∀ {a : D2} {d : D} {x : P}, RelD e B S a d → val2 e2 a = some x → val S d = some x
  | .p y, d, x, h, q => by
    cases h
    exact q
  | .ref i, d, x, h, q => by
    obtain ⟨l, rfl, hl⟩ := h
    simp only [val2] at q
    match he : e2[i]?, q with
    | some (some (.m o)), q =>
      obtain ⟨l', a, b, c⟩ := s.m i o he
      rw [hl] at a
      cases a
      simp only [val, b]
      exact q
    | some (some (.p y)), q => cases q
    | some (some (.x c fs)), q => cases q
    | some none, q => cases q
    | none, q => cases q
  | .x c fs, d, x, h, q => by cases q
  | .fr o, d, x, h, q => by cases q
theorem vals_sim {e2 : E2} {e : Env} {B : Nat} {S : Store} (s : Sim e2 e S) : ∀ {a : List D2} {d : List D} {xs : List P}, RelDs e B S a d → vals2 e2 a = some xs → vals S d = some xs
  | [], [], xs, h, q => q
  | [], _ :: _, xs, h, q => h.elim
  | _ :: _, [], xs, h, q => h.elim
  | a :: r, d :: t, xs, ⟨h1, h2, h3⟩, q => by
    simp only [vals2] at q
    cases hx : val2 e2 a with
    | none => rw [hx] at q; cases q
    | some x =>
      cases hr : vals2 e2 r with
      | none => rw [hx, hr] at q; cases q
      | some ys =>
        rw [hx, hr] at q
        simp only [vals, val_sim s h1 hx, vals_sim s h3 hr]
        exact q
theorem pures_sim {e : Env} {B : Nat} {S : Store} : ∀ {a : List D2} {d : List D} {xs : List P}, RelDs e B S a d → pures2 a = some xs → pures d = some xs
  | [], [], xs, h, q => q
  | [], _ :: _, xs, h, q => h.elim
  | _ :: _, [], xs, h, q => h.elim
  | .p x :: r, d :: t, xs, ⟨h1, h2, h3⟩, q => by
    cases h1
    simp only [pures2] at q
    cases hr : pures2 r with
    | none => rw [hr] at q; cases q
    | some ys =>
      rw [hr] at q
      simp only [pures, pures_sim h3 hr]
      exact q
  | .x c fs :: r, d :: t, xs, h, q => by cases q
  | .ref i :: r, d :: t, xs, h, q => by cases q
  | .fr o :: r, d :: t, xs, h, q => by cases q
/-! changes -/
theorem isM_set {e2 : E2} {i j : Nat} {v : Option V} : isM (e2.set i v)[j]? = true → (i = j ∧ isM (some v) = true) ∨ (i ≠ j ∧ isM e2[j]? = true) := by
  intro h
  by_cases hij : i = j
  · subst hij
    rw [List.getElem?_set] at h
    split at h
    · split at h
      · exact .inl ⟨rfl, h⟩
      · cases h
    · exact absurd rfl (by assumption)
  · rw [List.getElem?_set_ne hij] at h
    exact .inr ⟨hij, h⟩
/-- the object of a slot is changed -/
theorem Sim.mut {e2 : E2} {e : Env} {S : Store} (s : Sim e2 e S) {i l : Nat} {o : O} (h : OwnAt e2 e i l) (ho : flatB o = true) : Sim (e2.set i (some (.m o))) e (S.set l o) := by
  have hl : l < S.length := s.own_lt ⟨i, h⟩
  have hi : i < e2.length := by
    obtain ⟨o', q⟩ := isM_iff.mp h.a
    exact (List.getElem?_eq_some_iff.mp q).1
  have ow : ∀ j l', OwnAt (e2.set i (some (.m o))) e j l' → OwnAt e2 e j l' := fun j l' q => by
    refine ⟨?_, q.b⟩
    rcases isM_set q.a with ⟨rfl, _⟩ | ⟨_, q⟩
    · exact h.a
    · exact q
  refine ⟨by simpa using s.len, fun j x q => ?_, fun j c fs q => ?_, fun j o' q => ?_, fun j k l' a b => s.inj j k l' (ow j l' a) (ow k l' b)⟩
  · by_cases hij : i = j
    · subst hij
      rw [List.getElem?_set_self hi] at q
      cases q
    · rw [List.getElem?_set_ne hij] at q
      exact s.p j x q
  · by_cases hij : i = j
    · subst hij
      rw [List.getElem?_set_self hi] at q
      cases q
    · rw [List.getElem?_set_ne hij] at q
      exact s.x j c fs q
  · by_cases hij : i = j
    · subst hij
      rw [List.getElem?_set_self hi] at q
      cases q
      exact ⟨l, h.b, by rw [List.getElem?_set_self hl], ho⟩
    · rw [List.getElem?_set_ne hij] at q
      obtain ⟨l', a, b, c⟩ := s.m j o' q
      refine ⟨l', a, ?_, c⟩
      rw [List.getElem?_set_ne ?_]
      · exact b
      · rintro rfl
        exact hij (s.inj i j l h ⟨by rw [q]; rfl, a⟩)
theorem flat_ok {o : O} (h : flatB o = true) : ∀ kvs, o ≠ .dir kvs := by
  cases o <;> simp_all [flatB]
theorem EFrm.mut {np : Nat} {e2 : E2} {e : Env} {S : Store} {i l : Nat} {o : O} (s : Sim e2 e S) (h : OwnAt e2 e i l) (ho : flatB o = true) : EFrm np e2 e S (e2.set i (some (.m o))) (S.set l o) := by
  have hl : l < S.length := s.own_lt ⟨i, h⟩
  have hi : i < e2.length := by
    obtain ⟨o', q⟩ := isM_iff.mp h.a
    exact (List.getElem?_eq_some_iff.mp q).1
  have sub : ∀ j, isM (e2.set i (some (.m o)))[j]? = true → isM e2[j]? = true := fun j q => by
    rcases isM_set q with ⟨rfl, _⟩ | ⟨_, q⟩
    · exact h.a
    · exact q
  refine ⟨⟨by simp, fun l' hl' => ?_, fun l' q => ?_, fun j hj q => ⟨?_, rfl⟩⟩, sub⟩
  · by_cases hll : l = l'
    · subst hll
      exact .inr ⟨⟨i, h⟩, o, by rw [List.getElem?_set_self hl], flat_ok ho⟩
    · exact .inl (by rw [List.getElem?_set_ne hll])
  · obtain ⟨j, a, b⟩ := q
    exact .inl ⟨j, sub j a, b⟩
  · by_cases hij : i = j
    · subst hij
      rw [List.getElem?_set_self hi]
      rfl
    · rw [List.getElem?_set_ne hij]
      exact q
/-- the object of a slot is given up -/
theorem Sim.kill {e2 : E2} {e : Env} {S : Store} (s : Sim e2 e S) {i l : Nat} (h : OwnAt e2 e i l) : Sim (e2.set i none) e (S.set l .dead) := by
  have hi : i < e2.length := by
    obtain ⟨o', q⟩ := isM_iff.mp h.a
    exact (List.getElem?_eq_some_iff.mp q).1
  have ow : ∀ j l', OwnAt (e2.set i none) e j l' → OwnAt e2 e j l' := fun j l' q => by
    refine ⟨?_, q.b⟩
    rcases isM_set q.a with ⟨rfl, z⟩ | ⟨_, q⟩
    · cases z
    · exact q
  refine ⟨by simpa using s.len, fun j x q => ?_, fun j c fs q => ?_, fun j o' q => ?_, fun j k l' a b => s.inj j k l' (ow j l' a) (ow k l' b)⟩
  · by_cases hij : i = j
    · subst hij
      rw [List.getElem?_set_self hi] at q
      cases q
    · rw [List.getElem?_set_ne hij] at q
      exact s.p j x q
  · by_cases hij : i = j
    · subst hij
      rw [List.getElem?_set_self hi] at q
      cases q
    · rw [List.getElem?_set_ne hij] at q
      exact s.x j c fs q
  · by_cases hij : i = j
    · subst hij
      rw [List.getElem?_set_self hi] at q
      cases q
    · rw [List.getElem?_set_ne hij] at q
      obtain ⟨l', a, b, c⟩ := s.m j o' q
      refine ⟨l', a, ?_, c⟩
      rw [List.getElem?_set_ne ?_]
      · exact b
      · rintro rfl
        exact hij (s.inj i j l h ⟨by rw [q]; rfl, a⟩)
theorem EFrm.kill {np : Nat} {e2 : E2} {e : Env} {S : Store} {i l : Nat} (s : Sim e2 e S) (h : OwnAt e2 e i l) (hn : np ≤ i) : EFrm np e2 e S (e2.set i none) (S.set l .dead) := by
  have hl : l < S.length := s.own_lt ⟨i, h⟩
  have sub : ∀ j, isM (e2.set i none)[j]? = true → isM e2[j]? = true := fun j q => by
    rcases isM_set q with ⟨rfl, z⟩ | ⟨_, q⟩
    · cases z
    · exact q
  refine ⟨⟨by simp, fun l' hl' => ?_, fun l' q => ?_, fun j hj q => ⟨?_, rfl⟩⟩, sub⟩
  · by_cases hll : l = l'
    · subst hll
      exact .inr ⟨⟨i, h⟩, .dead, by rw [List.getElem?_set_self hl], fun kvs z => by cases z⟩
    · exact .inl (by rw [List.getElem?_set_ne hll])
  · obtain ⟨j, a, b⟩ := q
    exact .inl ⟨j, sub j a, b⟩
  · rw [List.getElem?_set_ne (by omega)]
    exact q
/-- things that no slot has are changed -/
theorem Sim.other {e2 : E2} {e : Env} {S S' : Store} (s : Sim e2 e S) (h : ∀ l, Own e2 e l → S'[l]? = S[l]?) : Sim e2 e S' :=
  ⟨s.len, s.p, s.x, fun i o q => by
    obtain ⟨l, a, b, c⟩ := s.m i o q
    exact ⟨l, a, by rw [h l ⟨i, by rw [q]; rfl, a⟩]; exact b, c⟩, s.inj⟩
end DL

/-! DVE: expressions -/
namespace DL
/-! ### calls -/
def locs : List V → List D → List Nat
  | .m _ :: r, .ref l :: s => l :: locs r s
  | _ :: r, _ :: s => locs r s
  | _, _ => []
def ArgR (S : Store) : List V → List D → Prop
  | [], [] => True
  | .p x :: r, d :: s => d = .p x ∧ ArgR S r s
  | .x c fs :: r, d :: s => d = .exc c fs ∧ ArgR S r s
  | .m o :: r, d :: s => (∃ l, d = .ref l ∧ S[l]? = some o ∧ flatB o = true ∧ l ∉ locs r s) ∧ ArgR S r s
  | _, _ => False
def updS : Store → List Nat → List O → Store
  | S, l :: ls, o :: os => updS (S.set l o) ls os
  | S, _, _ => S
@[simp] theorem updS_len : ∀ (ls : List Nat) (os : List O) (S : Store), (updS S ls os).length = S.length
  | [], os, S => by cases os <;> rfl
  | _ :: _, [], S => rfl
  | l :: ls, o :: os, S => by rw [updS, updS_len]; simp
def ResR (S1 : Store) : V → D → Store → Prop
  | .p x, d, S' => d = .p x ∧ S' = S1
  | .m o, d, S' => d = .ref S1.length ∧ S' = S1 ++ [o] ∧ flatB o = true
  | .x _ _, _, _ => False
def CallR (vs : List V) (ds : List D) (S : Store) : Q2 → R D → Prop
  | .no, _ => True
  | .ok v os, r => (∀ o ∈ os, flatB o = true) ∧ ∃ d S', r = .ok d S' ∧ ResR (updS S (locs vs ds) os) v d S'
  | .ex c fs os, r => (∀ o ∈ os, flatB o = true) ∧ r = .ex c fs (updS S (locs vs ds) os)
def RnSim (rn2 : Rn2) (rn : Rn) : Prop := ∀ f vs ds S, ArgR S vs ds → CallR vs ds S (rn2 f vs) (rn f ds S)
def Tied (e2 : E2) (e : Env) (B : Nat) : List D2 → List V → List D → Prop
  | [], [], [] => True
  | .p x :: r, .p _ :: vs, d :: s => d = .p x ∧ Tied e2 e B r vs s
  | .x c fs :: r, .x _ _ :: vs, d :: s => d = .exc c fs ∧ Tied e2 e B r vs s
  | .ref i :: r, .m _ :: vs, d :: s => (∃ l, d = .ref l ∧ OwnAt e2 e i l) ∧ Tied e2 e B r vs s
  | .fr _ :: r, .m _ :: vs, d :: s => (∃ l, d = .ref l ∧ B ≤ l) ∧ Tied e2 e B r vs s
  | _, _, _ => False
theorem argV_locs {e2 : E2} {e : Env} {B : Nat} {S : Store} (s : Sim e2 e S) : ∀ {ds2 : List D2} {ds : List D} {vs : List V}, RelDs e B S ds2 ds → argV e2 ds2 = some vs → ∀ l, l ∈ locs vs ds → (∃ j, j ∈ refsOf ds2 ∧ OwnAt e2 e j l) ∨ l ∈ frL ds2 ds
  | [], [], vs, h, q, l, hl => by
    simp only [argV, Option.some.injEq] at q
    subst q
    simp [locs] at hl
  | [], _ :: _, vs, h, q, l, hl => h.elim
  | _ :: _, [], vs, h, q, l, hl => h.elim
  | .p x :: r, d :: t, vs, ⟨h1, h2, h3⟩, q, l, hl => by
    simp only [argV, Option.map_eq_some_iff] at q
    obtain ⟨ws, q, rfl⟩ := q
    cases h1
    exact argV_locs s h3 q l (by simpa [locs] using hl)
  | .x c fs :: r, d :: t, vs, ⟨h1, h2, h3⟩, q, l, hl => by
    simp only [argV, Option.map_eq_some_iff] at q
    obtain ⟨ws, q, rfl⟩ := q
    cases h1
    exact argV_locs s h3 q l (by simpa [locs] using hl)
  | .fr o :: r, d :: t, vs, ⟨h1, h2, h3⟩, q, l, hl => by
    simp only [argV, Option.map_eq_some_iff] at q
    obtain ⟨ws, q, rfl⟩ := q
    obtain ⟨l', rfl, _⟩ := h1
    simp only [locs, List.mem_cons] at hl
    rcases hl with rfl | hl
    · exact .inr (by simp [frL])
    · rcases argV_locs s h3 q l hl with z | z
      · exact .inl z
      · exact .inr (by simp [frL, z])
  | .ref i :: r, d :: t, vs, ⟨h1, h2, h3⟩, q, l, hl => by
    obtain ⟨l', rfl, hi⟩ := h1
    simp only [argV] at q
    match he : e2[i]?, q with
    | some (some (.m o)), q =>
      simp only [Option.map_eq_some_iff] at q
      obtain ⟨ws, q', rfl⟩ := q
      simp only [locs, List.mem_cons] at hl
      rcases hl with rfl | hl
      · exact .inl ⟨i, by simp [refsOf], by rw [he]; rfl, hi⟩
      · rcases argV_locs s h3 q' l hl with ⟨j, z1, z2⟩ | z
        · exact .inl ⟨j, by simp [refsOf, z1], z2⟩
        · exact .inr (by simpa [frL] using z)
theorem argV_sim {e2 : E2} {e : Env} {B : Nat} {S : Store} (s : Sim e2 e S) (hB : ∀ l, Own e2 e l → l < B) : ∀ {ds2 : List D2} {ds : List D} {vs : List V}, RelDs e B S ds2 ds → (refsOf ds2).Nodup → argV e2 ds2 = some vs → ArgR S vs ds ∧ Tied e2 e B ds2 vs ds
  | [], [], vs, h, hn, q => by
    simp only [argV, Option.some.injEq] at q
    subst q
    exact ⟨trivial, trivial⟩
  | [], _ :: _, vs, h, _, q => h.elim
  | _ :: _, [], vs, h, _, q => h.elim
  | .p x :: r, d :: t, vs, ⟨h1, h2, h3⟩, hn, q => by
    simp only [argV, Option.map_eq_some_iff] at q
    obtain ⟨ws, q, rfl⟩ := q
    cases h1
    obtain ⟨a, b⟩ := argV_sim s hB h3 hn q
    exact ⟨⟨rfl, a⟩, rfl, b⟩
  | .x c fs :: r, d :: t, vs, ⟨h1, h2, h3⟩, hn, q => by
    simp only [argV, Option.map_eq_some_iff] at q
    obtain ⟨ws, q, rfl⟩ := q
    cases h1
    obtain ⟨a, b⟩ := argV_sim s hB h3 hn q
    exact ⟨⟨rfl, a⟩, rfl, b⟩
  | .fr o :: r, d :: t, vs, ⟨h1, h2, h3⟩, hn, q => by
    simp only [argV, Option.map_eq_some_iff] at q
    obtain ⟨ws, q, rfl⟩ := q
    obtain ⟨l, rfl, hl, hg, ho⟩ := h1
    obtain ⟨a, b⟩ := argV_sim s hB h3 hn q
    refine ⟨⟨⟨l, rfl, hg, ho, fun z => ?_⟩, a⟩, ⟨l, rfl, hl⟩, b⟩
    rcases argV_locs s h3 q l z with ⟨j, _, z⟩ | z
    · have := hB l ⟨j, z⟩
      omega
    · exact h2 o l rfl rfl z
  | .ref i :: r, d :: t, vs, ⟨h1, h2, h3⟩, hn, q => by
    obtain ⟨l, rfl, hi⟩ := h1
    simp only [argV] at q
    match he : e2[i]?, q with
    | some (some (.m o)), q =>
      simp only [Option.map_eq_some_iff] at q
      obtain ⟨ws, q', rfl⟩ := q
      simp only [refsOf, List.nodup_cons] at hn
      have ow : OwnAt e2 e i l := ⟨by rw [he]; rfl, hi⟩
      obtain ⟨a, b⟩ := argV_sim s hB h3 hn.2 q'
      obtain ⟨l', z1, z2, z3⟩ := s.m i o he
      rw [hi] at z1
      cases z1
      refine ⟨⟨⟨l, rfl, z2, z3, fun z => ?_⟩, a⟩, ⟨l, rfl, ow⟩, b⟩
      rcases argV_locs s h3 q' l z with ⟨j, hj, z⟩ | z
      · rw [s.inj i j l ow z] at hn
        exact hn.1 hj
      · have := h3.fr_ge l z
        have := hB l ⟨i, ow⟩
        omega
theorem Tied.mut {e2 : E2} {e : Env} {B i : Nat} {o : O} (hi : isM e2[i]? = true) : ∀ {ds2 : List D2} {vs : List V} {ds : List D}, Tied e2 e B ds2 vs ds → Tied (e2.set i (some (.m o))) e B ds2 vs ds
  | [], [], [], h => trivial
  | .p x :: r, .p _ :: vs, d :: s, ⟨a, b⟩ => ⟨a, b.mut hi⟩
  | .x c fs :: r, .x _ _ :: vs, d :: s, ⟨a, b⟩ => ⟨a, b.mut hi⟩
  | .fr _ :: r, .m _ :: vs, d :: s, ⟨a, b⟩ => ⟨a, b.mut hi⟩
  | .ref j :: r, .m _ :: vs, d :: s, ⟨⟨l, h1, h2⟩, b⟩ => by
    refine ⟨⟨l, h1, ?_, h2.b⟩, b.mut hi⟩
    by_cases hij : i = j
    · subst hij
      obtain ⟨o', q⟩ := isM_iff.mp hi
      rw [List.getElem?_set_self (List.getElem?_eq_some_iff.mp q).1]
      rfl
    · rw [List.getElem?_set_ne hij]
      exact h2.a
theorem EFrm.new {np : Nat} {e2 e2' : E2} {e : Env} {S S' S'' : Store} (f : EFrm np e2 e S e2' S') (hl : S.length ≤ S''.length) (h : ∀ l, l < S.length → S''[l]? = S'[l]?) : EFrm np e2 e S e2' S'' :=
  ⟨⟨hl, fun l q => by rw [h l q]; exact f.f.old l q, f.f.own, f.f.par⟩, f.sub⟩
theorem wb_sim {np : Nat} {e20 : E2} {e : Env} {S0 : Store} (s0 : Sim e20 e S0) : ∀ {ds2 : List D2} {vs : List V} {ds : List D} {os : List O} {e2 e2' : E2} {S : Store}, Tied e2 e S0.length ds2 vs ds → Sim e2 e S → EFrm np e20 e S0 e2 S → (∀ o ∈ os, flatB o = true) → wbE ds2 os e2 = some e2' → Sim e2' e (updS S (locs vs ds) os) ∧ EFrm np e20 e S0 e2' (updS S (locs vs ds) os)
  | [], [], [], [], e2, e2', S, t, s, f, ho, q => by
    simp only [wbE, Option.some.injEq] at q
    subst q
    exact ⟨s, f⟩
  | [], [], [], _ :: _, e2, e2', S, t, s, f, ho, q => by simp [wbE] at q
  | .p x :: r, .p _ :: vs, d :: t, os, e2, e2', S, ⟨a, b⟩, s, f, ho, q => by
    subst a
    have q' : wbE r os e2 = some e2' := by simpa [wbE] using q
    have := wb_sim s0 b s f ho q'
    exact this
  | .x c fs :: r, .x _ _ :: vs, d :: t, os, e2, e2', S, ⟨a, b⟩, s, f, ho, q => by
    subst a
    have q' : wbE r os e2 = some e2' := by simpa [wbE] using q
    have := wb_sim s0 b s f ho q'
    exact this
  | .fr _ :: r, .m _ :: vs, d :: t, [], e2, e2', S, ⟨a, b⟩, s, f, ho, q => by simp [wbE] at q
  | .ref _ :: r, .m _ :: vs, d :: t, [], e2, e2', S, ⟨a, b⟩, s, f, ho, q => by simp [wbE] at q
  | .fr _ :: r, .m _ :: vs, d :: t, o :: os, e2, e2', S, ⟨a, b⟩, s, f, ho, q => by
    obtain ⟨l, rfl, hl⟩ := a
    have s' : Sim e2 e (S.set l o) := s.other fun l' hl' => by
      have := s0.own_lt (f.own hl')
      rw [List.getElem?_set_ne (by omega)]
    have f' : EFrm np e20 e S0 e2 (S.set l o) := f.new (by simpa using f.f.len) fun l' hl' => by rw [List.getElem?_set_ne (by omega)]
    have q' : wbE r os e2 = some e2' := by simpa [wbE] using q
    have := wb_sim s0 b s' f' (fun o' h => ho o' (List.mem_cons_of_mem _ h)) q'
    exact this
  | .ref i :: r, .m _ :: vs, d :: t, o :: os, e2, e2', S, ⟨a, b⟩, s, f, ho, q => by
    obtain ⟨l, rfl, ow⟩ := a
    have hf := ho o List.mem_cons_self
    have q' : wbE r os (e2.set i (some (.m o))) = some e2' := by simpa [wbE] using q
    have := wb_sim s0 (b.mut ow.a) (s.mut ow hf) (f.trans (.mut s ow hf)) (fun o' h => ho o' (List.mem_cons_of_mem _ h)) q'
    exact this
/-! ### slots set -/
theorem wipe2_len : ∀ (vs : List Nat) (e : E2), (wipe2 e vs).length = e.length
  | [], e => rfl
  | v :: vs, e => by rw [wipe2]; simp [wipe2_len vs e]
theorem wipeD_len : ∀ (vs : List Nat) (e : Env), (wipeD e vs).length = e.length
  | [], e => rfl
  | v :: vs, e => by rw [wipeD]; simp [wipeD_len vs e]
theorem back2_len (e0 : E2) : ∀ (vs : List Nat) (e : E2), (back2 e0 e vs).length = e.length
  | [], e => rfl
  | v :: vs, e => by rw [back2]; simp [back2_len e0 vs e]
theorem wipe2_out (i : Nat) : ∀ (vs : List Nat) (e : E2), i ∉ vs → (wipe2 e vs)[i]? = e[i]?
  | [], e, h => rfl
  | v :: vs, e, h => by
    simp only [List.mem_cons, not_or] at h
    rw [wipe2, List.getElem?_set_ne (fun z => h.1 z.symm), wipe2_out i vs e h.2]
theorem wipeD_out (i : Nat) : ∀ (vs : List Nat) (e : Env), i ∉ vs → (wipeD e vs)[i]? = e[i]?
  | [], e, h => rfl
  | v :: vs, e, h => by
    simp only [List.mem_cons, not_or] at h
    rw [wipeD, List.getElem?_set_ne (fun z => h.1 z.symm), wipeD_out i vs e h.2]
theorem wipe2_in (i : Nat) : ∀ (vs : List Nat) (e : E2), i ∈ vs → (wipe2 e vs)[i]? = none ∨ (wipe2 e vs)[i]? = some none
  | [], e, h => by simp at h
  | v :: vs, e, h => by
    rw [wipe2, List.getElem?_set]
    by_cases hv : v = i
    · rw [if_pos hv]
      split
      · exact .inr rfl
      · exact .inl rfl
    · rw [if_neg hv]
      simp only [List.mem_cons] at h
      rcases h with h | h
      · exact absurd h.symm hv
      · exact wipe2_in i vs e h
theorem back2_out (e0 : E2) (i : Nat) : ∀ (vs : List Nat) (e : E2), i ∉ vs → (back2 e0 e vs)[i]? = e[i]?
  | [], e, h => rfl
  | v :: vs, e, h => by
    simp only [List.mem_cons, not_or] at h
    rw [back2, List.getElem?_set_ne (fun z => h.1 z.symm), back2_out e0 i vs e h.2]
theorem back2_in (e0 : E2) (i : Nat) : ∀ (vs : List Nat) (e : E2), e.length = e0.length → i ∈ vs → (back2 e0 e vs)[i]? = e0[i]?
  | [], e, hl, h => by simp at h
  | v :: vs, e, hl, h => by
    rw [back2, List.getElem?_set]
    by_cases hv : v = i
    · subst hv
      rw [if_pos rfl, back2_len, hl]
      by_cases hi : v < e0.length
      · rw [if_pos hi]
        simp [hi]
      · rw [if_neg hi]
        simp [Nat.le_of_not_lt hi]
    · rw [if_neg hv]
      simp only [List.mem_cons] at h
      rcases h with h | h
      · exact absurd h.symm hv
      · exact back2_in e0 i vs e hl h
/-- a slot of data, of an object, of an exception -/
def SlotR (B : Nat) (S : Store) (e2 : E2) (e : Env) : V → D → Prop
  | .p x, d => d = .p x
  | .x c fs, d => d = .exc c fs
  | .m o, d => ∃ l, d = .ref l ∧ B ≤ l ∧ S[l]? = some o ∧ flatB o = true
/-- one slot is set: B: what all slots' objects stand below -/
theorem Sim.put {e2 : E2} {e : Env} {S : Store} {B i : Nat} {v : V} {d : D} (s : Sim e2 e S) (hB : ∀ l, Own e2 e l → l < B) (h : SlotR B S e2 e v d) : Sim (e2.set i (some v)) (e.set i (some d)) S := by
  have ow : ∀ j l, OwnAt (e2.set i (some v)) (e.set i (some d)) j l → (j ≠ i ∧ OwnAt e2 e j l) ∨ (j = i ∧ B ≤ l) := fun j l q => by
    by_cases hij : i = j
    · subst hij
      refine .inr ⟨rfl, ?_⟩
      rcases isM_set q.a with ⟨_, z⟩ | ⟨z, _⟩
      · match v, h, z with
        | .m o, ⟨l', h1, h2, _⟩, _ =>
          have := q.b
          subst h1
          rw [List.getElem?_set] at this
          simp only [if_true] at this
          split at this
          · cases this
            exact h2
          · cases this
      · exact absurd rfl z
    · refine .inl ⟨fun z => hij z.symm, ?_, ?_⟩
      · have := q.a
        rwa [List.getElem?_set_ne hij] at this
      · have := q.b
        rwa [List.getElem?_set_ne hij] at this
  refine ⟨by simpa using s.len, fun j x q => ?_, fun j c fs q => ?_, fun j o' q => ?_, fun j k l a b => ?_⟩
  · by_cases hij : i = j
    · subst hij
      rw [List.getElem?_set] at q ⊢
      simp only [if_true, ← s.len] at q ⊢
      split at q
      · rename_i hi
        rw [if_pos hi]
        cases q
        rw [show d = .p x from h]
      · cases q
    · rw [List.getElem?_set_ne hij] at q ⊢
      exact s.p j x q
  · by_cases hij : i = j
    · subst hij
      rw [List.getElem?_set] at q ⊢
      simp only [if_true, ← s.len] at q ⊢
      split at q
      · rename_i hi
        rw [if_pos hi]
        cases q
        rw [show d = .exc c fs from h]
      · cases q
    · rw [List.getElem?_set_ne hij] at q ⊢
      exact s.x j c fs q
  · by_cases hij : i = j
    · subst hij
      rw [List.getElem?_set] at q ⊢
      simp only [if_true, ← s.len] at q ⊢
      split at q
      · rename_i hi
        rw [if_pos hi]
        cases q
        obtain ⟨l, rfl, h2, h3, h4⟩ := h
        exact ⟨l, rfl, h3, h4⟩
      · cases q
    · rw [List.getElem?_set_ne hij] at q ⊢
      exact s.m j o' q
  · rcases ow j l a with ⟨h1, h2⟩ | ⟨h1, h2⟩
    · rcases ow k l b with ⟨h3, h4⟩ | ⟨h3, h4⟩
      · exact s.inj j k l h2 h4
      · have := hB l ⟨j, h2⟩
        omega
    · rcases ow k l b with ⟨h3, h4⟩ | ⟨h3, h4⟩
      · have := hB l ⟨k, h4⟩
        omega
      · rw [h1, h3]
theorem Frm.put {np : Nat} {e2 : E2} {e : Env} {S : Store} {B i : Nat} {v : V} {d : D} (h : SlotR B S e2 e v d) (hf : freeS np e2 i = true) : (∀ l, Own (e2.set i (some v)) (e.set i (some d)) l → Own e2 e l ∨ B ≤ l) ∧ (∀ j, j < np → isM e2[j]? = true → isM (e2.set i (some v))[j]? = true ∧ (e.set i (some d))[j]? = e[j]?) := by
  constructor
  · rintro l ⟨j, q⟩
    by_cases hij : i = j
    · subst hij
      rcases isM_set q.a with ⟨_, z⟩ | ⟨z, _⟩
      · match v, h, z with
        | .m o, ⟨l', h1, h2, _⟩, _ =>
          have := q.b
          subst h1
          rw [List.getElem?_set] at this
          simp only [if_true] at this
          split at this
          · cases this
            exact .inr h2
          · cases this
      · exact absurd rfl z
    · refine .inl ⟨j, ?_, ?_⟩
      · have := q.a
        rwa [List.getElem?_set_ne hij] at this
      · have := q.b
        rwa [List.getElem?_set_ne hij] at this
  · intro j hj q
    have hij : i ≠ j := by
      rintro rfl
      simp only [freeS, q, Bool.not_true, Bool.or_false, decide_eq_true_eq] at hf
      omega
    rw [List.getElem?_set_ne hij, List.getElem?_set_ne hij]
    exact ⟨q, rfl⟩
/-- the outcome of an assignment -/
structure AsgR (np B : Nat) (S : Store) (e2 : E2) (e : Env) (e2' : E2) (e' : Env) : Prop where
  s : Sim e2' e' S
  own : ∀ l, Own e2' e' l → Own e2 e l ∨ B ≤ l
  par : ∀ j, j < np → isM e2[j]? = true → isM e2'[j]? = true ∧ e'[j]? = e[j]?
theorem setMany_sim {np B : Nat} {S : Store} : ∀ {is : List Nat} {xs : List P} {e2 e2' : E2} {e : Env}, Sim e2 e S → (∀ l, Own e2 e l → l < B) → setMany2 np is xs e2 = some e2' →
    ∃ e', setMany is xs e = some e' ∧ AsgR np B S e2 e e2' e' ∧ (∀ l, Own e2' e' l → Own e2 e l) ∧ ∀ j, j ∉ is → e2'[j]? = e2[j]? ∧ e'[j]? = e[j]?
  | [], [], e2, e2', e, s, hB, q => by
    simp only [setMany2, Option.some.injEq] at q
    subst q
    exact ⟨e, rfl, ⟨s, fun l h => .inl h, fun j h q => ⟨q, rfl⟩⟩, fun l h => h, fun j h => ⟨rfl, rfl⟩⟩
  | [], _ :: _, e2, e2', e, s, hB, q => by simp [setMany2] at q
  | _ :: _, [], e2, e2', e, s, hB, q => by simp [setMany2] at q
  | i :: is, x :: xs, e2, e2', e, s, hB, q => by
    simp only [setMany2] at q
    split at q
    · rename_i hf
      have s1 : Sim (e2.set i (some (.p x))) (e.set i (some (.p x))) S := s.put hB (v := .p x) rfl
      obtain ⟨o1, p1⟩ := Frm.put (B := B) (S := S) (e := e) (v := .p x) (d := .p x) rfl hf
      have o1' : ∀ l, Own (e2.set i (some (.p x))) (e.set i (some (.p x))) l → Own e2 e l := fun l ⟨j, q⟩ => by
        rcases isM_set q.a with ⟨_, z⟩ | ⟨z, z2⟩
        · cases z
        · refine ⟨j, z2, ?_⟩
          have := q.b
          rwa [List.getElem?_set_ne z] at this
      obtain ⟨e', h1, h2, h3, h4⟩ := setMany_sim s1 (fun l h => hB l (o1' l h)) q
      refine ⟨e', h1, ⟨h2.s, fun l h => .inl (o1' l (h3 l h)), fun j hj hm => ?_⟩, fun l h => o1' l (h3 l h), fun j hj => ?_⟩
      · obtain ⟨a, b⟩ := p1 j hj hm
        obtain ⟨c, d⟩ := h2.par j hj a
        exact ⟨c, d.trans b⟩
      · simp only [List.mem_cons, not_or] at hj
        obtain ⟨a, b⟩ := h4 j hj.2
        rw [a, b, List.getElem?_set_ne (fun z => hj.1 z.symm), List.getElem?_set_ne (fun z => hj.1 z.symm)]
        exact ⟨rfl, rfl⟩
    · cases q
def tgOut (j : Nat) : Tg → Prop
  | .one i => j ≠ i
  | .many is => j ∉ is
theorem asg_sim {np B : Nat} {S : Store} {tg : Tg} {d2 : D2} {d : D} {e2 e2' : E2} {e : Env} (s : Sim e2 e S) (hB : ∀ l, Own e2 e l → l < B) (hd : RelD e B S d2 d) (q : assignTg2 np tg d2 e2 = some e2') :
    ∃ e', assignTg tg d S e = some e' ∧ AsgR np B S e2 e e2' e' ∧ ∀ j, tgOut j tg → e2'[j]? = e2[j]? ∧ e'[j]? = e[j]? := by
  cases tg with
  | one i =>
    cases d2 with
    | ref j => simp [assignTg2] at q
    | p x =>
      cases hd
      simp only [assignTg2] at q
      split at q
      · rename_i hf
        cases q
        obtain ⟨a, b⟩ := Frm.put (B := B) (S := S) (e := e) (v := .p x) (d := .p x) rfl hf
        exact ⟨_, rfl, ⟨s.put hB (v := .p x) rfl, a, b⟩, fun j hj => ⟨List.getElem?_set_ne (fun z => hj z.symm), List.getElem?_set_ne (fun z => hj z.symm)⟩⟩
      · cases q
    | x c fs =>
      cases hd
      simp only [assignTg2] at q
      split at q
      · rename_i hf
        cases q
        obtain ⟨a, b⟩ := Frm.put (B := B) (S := S) (e := e) (v := .x c fs) (d := .exc c fs) rfl hf
        exact ⟨_, rfl, ⟨s.put hB (v := .x c fs) rfl, a, b⟩, fun j hj => ⟨List.getElem?_set_ne (fun z => hj z.symm), List.getElem?_set_ne (fun z => hj z.symm)⟩⟩
      · cases q
    | fr o =>
      simp only [assignTg2] at q
      split at q
      · rename_i hf
        cases q
        have hv : SlotR B S e2 e (.m o) d := hd
        obtain ⟨a, b⟩ := Frm.put hv hf
        exact ⟨_, rfl, ⟨s.put hB hv, a, b⟩, fun j hj => ⟨List.getElem?_set_ne (fun z => hj z.symm), List.getElem?_set_ne (fun z => hj z.symm)⟩⟩
      · cases q
  | many is =>
    match d2, hd, q with
    | .p (.tup xs), hd, q =>
      cases hd
      obtain ⟨e', h1, h2, h3, h4⟩ := setMany_sim s hB q
      exact ⟨e', h1, h2, h4⟩
end DL

/-! DVX: expressions, statements, defs -/
namespace DL
theorem EFrm.kill0 {np : Nat} {e2 e2' : E2} {e : Env} {S S' : Store} (s0 : Sim e2 e S) (s : Sim e2' e S') (f : EFrm np e2 e S e2' S') {l : Nat} (hl : S.length ≤ l) : Sim e2' e (gone S l S') ∧ EFrm np e2 e S e2' (gone S l S') := by
  have hs := f.f.len
  unfold gone
  split
  · refine ⟨s.other fun l' q => ?_, f.new (by simp; omega) fun l' q => ?_⟩
    · have := s0.own_lt (f.own q)
      rw [List.getElem?_take_of_lt this]
    · rw [List.getElem?_take_of_lt q]
  · refine ⟨s.other fun l' q => ?_, f.new (by simp; omega) fun l' q => ?_⟩
    · have := s0.own_lt (f.own q)
      rw [List.getElem?_set_ne (by omega)]
    · rw [List.getElem?_set_ne (by omega)]
theorem gone_old {S S' : Store} {l : Nat} (h : l < S.length) : gone S l S' = S'.set l .dead := by
  unfold gone
  rw [if_neg (by omega)]
theorem bool_sim {α β : Type} {np : Nat} {e2 : E2} {e : Env} {S : Store} {Q : Store → α → β → Prop} {B : Nat} {T : Store} {d2 : D2} {d : D} (h : RelD e B T d2 d) {t2 f2 : R2 α} {t f no : R β}
    (ht : RelR np e2 e S Q t2 t) (hf : RelR np e2 e S Q f2 f) : RelR np e2 e S Q (boolK .no t2 f2 d2) (match trueD d with | some true => t | some false => f | none => no) := by
  cases d2 with
  | p x =>
    cases h
    cases x with
    | bl b => cases b <;> assumption
    | _ => trivial
  | _ => trivial
/-- what a value is read from -/
def RelW (e : Env) : D2 → D → Prop
  | .p x, d => d = .p x
  | .ref i, d => ∃ l, d = .ref l ∧ e[i]? = some (some (D.ref l))
  | _, _ => True
def RelWs (e : Env) : List D2 → List D → Prop
  | [], [] => True
  | a :: r, d :: s => RelW e a d ∧ RelWs e r s
  | _, _ => False
theorem RelD.w {e : Env} {B : Nat} {S : Store} : ∀ {a : D2} {d : D}, RelD e B S a d → RelW e a d
  | .p x, d, h => h
  | .x c fs, d, h => trivial
  | .fr o, d, h => trivial
  | .ref i, d, h => h
theorem RelDs.w {e : Env} {B : Nat} {S : Store} : ∀ {a : List D2} {d : List D}, RelDs e B S a d → RelWs e a d
  | [], [], h => trivial
  | a :: r, d :: s, ⟨h1, h2, h3⟩ => ⟨h1.w, h3.w⟩
  | [], _ :: _, h => h.elim
  | _ :: _, [], h => h.elim
theorem valW {e2 : E2} {e : Env} {S : Store} (s : Sim e2 e S) : ∀ {a : D2} {d : D} {x : P}, RelW e a d → val2 e2 a = some x → val S d = some x
  | .p y, d, x, h, q => val_sim (B := 0) s (a := .p y) h q
  | .ref i, d, x, h, q => val_sim (B := 0) s (a := .ref i) h q
  | .x c fs, d, x, h, q => by cases q
  | .fr o, d, x, h, q => by cases q
theorem valsW {e2 : E2} {e : Env} {S : Store} (s : Sim e2 e S) : ∀ {a : List D2} {d : List D} {xs : List P}, RelWs e a d → vals2 e2 a = some xs → vals S d = some xs
  | [], [], xs, h, q => q
  | [], _ :: _, xs, h, q => h.elim
  | _ :: _, [], xs, h, q => h.elim
  | a :: r, d :: t, xs, ⟨h1, h3⟩, q => by
    simp only [vals2] at q
    cases hx : val2 e2 a with
    | none => rw [hx] at q; cases q
    | some x =>
      cases hr : vals2 e2 r with
      | none => rw [hx, hr] at q; cases q
      | some ys =>
        rw [hx, hr] at q
        simp only [vals, valW s h1 hx, valsW s h3 hr]
        exact q
theorem lift_sim {np : Nat} {e20 e2 : E2} {e : Env} {S0 S : Store} {B : Nat} {o : Option P} {r : R D} (s : Sim e2 e S) (f : EFrm np e20 e S0 e2 S) (h : ∀ y, o = some y → r = .ok (.p y) S) : RelR np e20 e S0 (fun S' a b => RelD e B S' a b) (liftK e2 o) r := by
  cases o with
  | none => trivial
  | some y => exact ⟨_, S, h y rfl, s, f, rfl⟩
theorem op_sim {np : Nat} {e20 e2 : E2} {e : Env} {S0 S : Store} {B : Nat} {f : List P → Option P} {ds2 : List D2} {ds : List D} (s : Sim e2 e S) (g : EFrm np e20 e S0 e2 S) (h : RelWs e ds2 ds) :
    RelR np e20 e S0 (fun S' a b => RelD e B S' a b) (opY f (.ok ds2 e2)) (match vals S ds with | some xs => (match f xs with | some y => .ok (.p y) S | none => .no) | none => .no) := by
  simp only [opY]
  cases hv : vals2 e2 ds2 with
  | none => trivial
  | some xs =>
    rw [valsW s h hv]
    simp only [Option.bind_some]
    refine lift_sim s g fun y hy => ?_
    rw [hy]
theorem comp_sim {np : Nat} {e20 : E2} {e : Env} {S0 : Store} {chk2 : E2 → Bool} {chk : Store → Bool} {f2 : P → E2 → R2 (Option P)} {f : P → Store → R (Option P)} (hc : ∀ e2 S, Sim e2 e S → chk2 e2 = true → chk S = true)
    (hf : ∀ x e2 S, Sim e2 e S → RelR np e2 e S (fun _ a b => a = b) (f2 x e2) (f x S)) : ∀ (items : List P) (e2 : E2) (S : Store), Sim e2 e S → EFrm np e20 e S0 e2 S → RelR np e20 e S0 (fun _ a b => a = b) (compL2 chk2 f2 items e2) (compL chk f items S)
  | [], e2, S, s, g => by
    simp only [compL2, compL]
    split
    · rename_i h
      rw [if_pos (hc e2 S s h)]
      exact ⟨_, _, rfl, s, g, rfl⟩
    · trivial
  | x :: r, e2, S, s, g => by
    simp only [compL2, compL]
    split
    · rename_i h
      rw [if_pos (hc e2 S s h)]
      have h1 := hf x e2 S s
      cases q1 : f2 x e2 with
      | no => trivial
      | ex c fs e2' => trivial
      | ok o e2' =>
        rw [q1] at h1
        obtain ⟨o', S', q, s', g', rfl⟩ := h1
        rw [q]
        simp only
        have h2 := comp_sim hc hf r e2' S' s' (g.trans g')
        cases q2 : compL2 chk2 f2 r e2' with
        | no => trivial
        | ex c fs e2'' => trivial
        | ok ys e2'' =>
          rw [q2] at h2
          obtain ⟨zs, S'', q, s'', g'', rfl⟩ := h2
          rw [q]
          exact ⟨_, _, rfl, s'', g'', rfl⟩
    · trivial
theorem newK_sim {np : Nat} {e20 e2 : E2} {e : Env} {S0 S : Store} {B B' : Nat} {d2 : D2} {d : D} (s : Sim e2 e S) (g : EFrm np e20 e S0 e2 S) (hB : B ≤ S.length) (h : RelD e B' S d2 d) : RelR np e20 e S0 (fun S' a b => RelD e B S' a b) (newK (.ok d2 e2)) (newD d S) := by
  have key : ∀ o : O, flatB o = true → RelR np e20 e S0 (fun S' a b => RelD e B S' a b) (.ok (.fr o) e2) (.ok (.ref S.length) (S ++ [o])) := fun o ho =>
    ⟨_, _, rfl, s.other fun l q => by rw [List.getElem?_append_left (s.own_lt q)], g.new (by simpa using Nat.le_succ_of_le g.f.len) fun l q => by rw [List.getElem?_append_left (by have := g.f.len; omega)], S.length, rfl, hB, by simp, ho⟩
  cases d2 with
  | p x =>
    cases h
    cases x with
    | lst xs => exact key _ rfl
    | dic ks vs => exact key _ rfl
    | _ => trivial
  | _ => trivial
theorem frzK_sim {np : Nat} {e20 e2 : E2} {e : Env} {S0 S : Store} {B : Nat} {d2 : D2} {d : D} (s0 : Sim e20 e S0) (s : Sim e2 e S) (g : EFrm np e20 e S0 e2 S) (h : RelD e S0.length S d2 d) : RelR np e20 e S0 (fun S' a b => RelD e B S' a b) (frzK np (.ok d2 e2)) (frzD S0 d S) := by
  cases d2 with
  | p x =>
    cases h
    exact ⟨_, _, rfl, s, g, rfl⟩
  | x c fs => trivial
  | fr o =>
    obtain ⟨l, rfl, hl, hg, ho⟩ := h
    obtain ⟨a, b⟩ := EFrm.kill0 s0 s g hl
    cases o with
    | lst xs => exact ⟨_, _, by simp only [frzD, hg], a, b, rfl⟩
    | dic kvs => exact ⟨_, _, by simp only [frzD, hg], a, b, rfl⟩
    | _ => trivial
  | ref i =>
    obtain ⟨l, rfl, hi⟩ := h
    simp only [frzK]
    match he : e2[i]? with
    | none => trivial
    | some none => trivial
    | some (some (.p x)) => trivial
    | some (some (.x c fs)) => trivial
    | some (some (.m o)) =>
      obtain ⟨l', z1, z2, z3⟩ := s.m i o he
      rw [hi] at z1
      cases z1
      have ow : OwnAt e2 e i l := ⟨by rw [he]; rfl, hi⟩
      have hl : l < S0.length := s0.own_lt (g.own ⟨i, ow⟩)
      cases o with
      | lst xs =>
        simp only [frzS]
        split
        · rename_i hn
          exact ⟨_, _, by simp only [frzD, z2, gone_old hl], s.kill ow, g.trans (.kill s ow hn), rfl⟩
        · trivial
      | dic xs =>
        simp only [frzS]
        split
        · rename_i hn
          exact ⟨_, _, by simp only [frzD, z2, gone_old hl], s.kill ow, g.trans (.kill s ow hn), rfl⟩
        · trivial
      | _ => trivial
theorem mutS_sim {np : Nat} {e20 e2 : E2} {e : Env} {S0 S : Store} {B i l : Nat} {gm : Mu} {xs : List P} (s : Sim e2 e S) (g : EFrm np e20 e S0 e2 S) (hi : e[i]? = some (some (D.ref l))) : RelR np e20 e S0 (fun S' a b => RelD e B S' a b) (mutS gm i e2 (some xs)) (mutD gm (.ref l) xs S) := by
  simp only [mutS]
  match he : e2[i]? with
  | none => trivial
  | some none => trivial
  | some (some (.p x)) => trivial
  | some (some (.x c fs)) => trivial
  | some (some (.m o)) =>
    obtain ⟨l', z1, z2, z3⟩ := s.m i o he
    rw [hi] at z1
    cases z1
    have ow : OwnAt e2 e i l := ⟨by rw [he]; rfl, hi⟩
    simp only [mutV, mutD, z2]
    cases hg : gm o xs with
    | none => trivial
    | some q =>
      obtain ⟨o', y⟩ := q
      simp only [mutF]
      split
      · rename_i ho
        exact ⟨_, _, rfl, s.mut ow ho, g.trans (.mut s ow ho), rfl⟩
      · trivial
theorem call_sim {np : Nat} {rn2 : Rn2} {rn : Rn} {f : Nat} (hrn : RnSim rn2 rn) {e20 e2 : E2} {e : Env} {S0 S : Store} {ds2 : List D2} {ds : List D} (s0 : Sim e20 e S0) (s : Sim e2 e S) (g : EFrm np e20 e S0 e2 S) (h : RelDs e S0.length S ds2 ds) :
    RelR np e20 e S0 (fun S' a b => RelD e S0.length S' a b) (callK (rn2 f) (.ok ds2 e2)) (rn f ds S) := by
  simp only [callK]
  split
  · rename_i hn
    cases hv : argV e2 ds2 with
    | none => trivial
    | some vs =>
      obtain ⟨ha, ht⟩ := argV_sim s (fun l q => s0.own_lt (g.own q)) h hn hv
      have hc := hrn f vs ds S ha
      simp only [runK]
      cases hq : rn2 f vs with
      | no => trivial
      | ex c fs os =>
        rw [hq] at hc
        obtain ⟨ho, hr⟩ := hc
        simp only [endK]
        cases hw : wbE ds2 os e2 with
        | none => trivial
        | some e2' =>
          obtain ⟨a, b⟩ := wb_sim s0 ht s g ho hw
          rw [hr]
          exact ⟨_, rfl, a, b⟩
      | ok v os =>
        rw [hq] at hc
        obtain ⟨ho, d, S', hr, hres⟩ := hc
        simp only [endK]
        cases hw : wbE ds2 os e2 with
        | none => trivial
        | some e2' =>
          obtain ⟨a, b⟩ := wb_sim s0 ht s g ho hw
          rw [hr]
          cases v with
          | x c fs => trivial
          | p x =>
            obtain ⟨rfl, rfl⟩ := hres
            exact ⟨_, _, rfl, a, b, rfl⟩
          | m o =>
            obtain ⟨rfl, rfl, hf⟩ := hres
            refine ⟨_, _, rfl, a.other fun l q => ?_, b.new ?_ fun l q => ?_, _, rfl, ?_, by simp, hf⟩
            · rw [List.getElem?_append_left (a.own_lt q)]
            · have := b.f.len
              simp at this ⊢
              omega
            · have := b.f.len
              simp at this
              rw [List.getElem?_append_left (by simp; omega)]
            · have := b.f.len
              simpa using this
  · trivial
theorem cons_sim {np : Nat} {e20 : E2} {e : Env} {S0 : Store} {r2 : R2 D2} {r : R D} {k2 : E2 → R2 (List D2)} {k : Store → R (List D)} (h : RelR np e20 e S0 (fun S' a b => RelD e S0.length S' a b) r2 r)
    (s0 : Sim e20 e S0) (hk : ∀ e2 S, Sim e2 e S → RelR np e2 e S (fun S' a b => RelDs e S.length S' a b) (k2 e2) (k S)) : RelR np e20 e S0 (fun S' a b => RelDs e S0.length S' a b) (consK k2 r2) (r.bind fun d S1 => (k S1).bind fun ds S2 => .ok (d :: ds) S2) := by
  refine h.bind (consK k2) _ rfl (fun _ _ _ => rfl) fun a e2 b S s g hd => ?_
  simp only [consK]
  have := hk e2 S s
  refine RelR.rebase (Q' := fun S' x y => ∃ as bs, x = a :: as ∧ y = b :: bs ∧ RelDs e S.length S' as bs) (this.bind (consK2 a) _ rfl (fun _ _ _ => rfl) fun as e2' bs S' s' g' hds => ?_) g ?_
  · exact ⟨_, _, rfl, s', g', as, bs, rfl, rfl, hds⟩
  · rintro S' e2' x y g' ⟨as, bs, rfl, rfl, hds⟩
    refine ⟨?_, ?_, hds.mono g.f.len⟩
    · cases a with
      | p x => exact hd
      | x c fs => exact hd
      | ref i => exact hd
      | fr o =>
        obtain ⟨l, rfl, hl, hg, ho⟩ := hd
        refine ⟨l, rfl, hl, ?_, ho⟩
        have hlt := (List.getElem?_eq_some_iff.mp hg).1
        rw [g'.f.same hlt fun q => ?_]
        · exact hg
        · have := s0.own_lt (g.own q)
          omega
    · rintro o l rfl rfl z
      obtain ⟨l', q, hl, hg, ho⟩ := hd
      cases q
      have := (List.getElem?_eq_some_iff.mp hg).1
      have := hds.fr_ge l z
      omega
theorem noM {vs : List Nat} {e : E2} (h : vs.all (fun i => !isM e[i]?) = true) {i : Nat} (hi : i ∈ vs) : isM e[i]? = false := by
  have := List.all_eq_true.mp h i hi
  simpa using this
theorem tgIn_out {tg : Tg} {vs : List Nat} (h : tgIn tg vs = true) {j : Nat} (hj : j ∉ vs) : tgOut j tg := by
  cases tg with
  | one i =>
    rintro rfl
    exact hj (of_decide_eq_true h)
  | many is =>
    intro z
    exact hj (of_decide_eq_true (List.all_eq_true.mp h j z))
theorem item_sim {np : Nat} {vs : List Nat} {tg : Tg} {x : P} {cd2 el2 : E2 → R2 D2} {cd el : Env → Store → R D} (hcd : ∀ e2 e S, Sim e2 e S → RelR np e2 e S (fun S' a b => RelD e S.length S' a b) (cd2 e2) (cd e S)) (hel : ∀ e2 e S, Sim e2 e S → RelR np e2 e S (fun S' a b => RelD e S.length S' a b) (el2 e2) (el e S))
    {e2 : E2} {e : Env} {S : Store} (s : Sim e2 e S) : RelR np e2 e S (fun _ a b => a = b) (cpItem2 np vs tg cd2 el2 x e2) (match assignTg tg (.p x) S (wipeD e vs) with
          | some e1 => (cd e1 S).bind fun t S3 =>
            (match trueD t with
            | some true => (el e1 S3).bind fun d S4 =>
              (match d with
              | .p y => .ok (some y) S4
              | _ => .no)
            | some false => .ok none S3
            | none => .no)
          | none => .no) := by
  unfold cpItem2
  split
  · rename_i hok
    simp only [okVs, Bool.and_eq_true] at hok
    obtain ⟨ht, hv⟩ := hok
    -- the slots wiped
    have sw : Sim (wipe2 e2 vs) (wipeD e vs) S := by
      have out : ∀ (j : Nat) (v : V), (wipe2 e2 vs)[j]? = some (some v) → j ∉ vs ∧ e2[j]? = some (some v) := fun j v q => by
        by_cases hj : j ∈ vs
        · rcases wipe2_in j vs e2 hj with z | z <;> rw [z] at q <;> cases q
        · rw [wipe2_out j vs e2 hj] at q
          exact ⟨hj, q⟩
      have own : ∀ j l, OwnAt (wipe2 e2 vs) (wipeD e vs) j l → OwnAt e2 e j l := fun j l q => by
        obtain ⟨o, z⟩ := isM_iff.mp q.a
        obtain ⟨h1, h2⟩ := out j _ z
        exact ⟨by rw [h2]; rfl, by rw [← wipeD_out j vs e h1]; exact q.b⟩
      refine ⟨by rw [wipe2_len, wipeD_len, s.len], fun j x q => ?_, fun j c fs q => ?_, fun j o q => ?_, fun j k l a b => s.inj j k l (own j l a) (own k l b)⟩
      · obtain ⟨h1, h2⟩ := out j _ q
        rw [wipeD_out j vs e h1]
        exact s.p j x h2
      · obtain ⟨h1, h2⟩ := out j _ q
        rw [wipeD_out j vs e h1]
        exact s.x j c fs h2
      · obtain ⟨h1, h2⟩ := out j _ q
        rw [wipeD_out j vs e h1]
        exact s.m j o h2
    cases ha : assignTg2 np tg (.p x) (wipe2 e2 vs) with
    | none => trivial
    | some e21 =>
      obtain ⟨e1, q1, ar, keep⟩ := asg_sim (d2 := .p x) (d := .p x) (B := S.length) sw (fun l q => sw.own_lt q) rfl ha
      rw [q1]
      simp only [cpK]
      -- what the item does
      have body : RelR np e21 e1 S (fun _ a b => a = b) (itmK2 el2 (cd2 e21)) ((cd e1 S).bind fun t S3 =>
            (match trueD t with
            | some true => (el e1 S3).bind fun d S4 =>
              (match d with
              | .p y => .ok (some y) S4
              | _ => .no)
            | some false => .ok none S3
            | none => .no)) := by
        have h1 := hcd e21 e1 S ar.s
        cases hc : cd2 e21 with
        | no => trivial
        | ex c fs e2' => trivial
        | ok d2 e2' =>
          rw [hc] at h1
          obtain ⟨d, S', q, s', g', rd⟩ := h1
          rw [q]
          simp only [itmK2, R.bind_ok]
          refine bool_sim rd ?_ ⟨_, _, rfl, s', g', rfl⟩
          have h2 := hel e2' e1 S' s'
          cases he : el2 e2' with
          | no => trivial
          | ex c fs e2'' => trivial
          | ok d2' e2'' =>
            rw [he] at h2
            obtain ⟨d', S'', q, s'', g'', rd'⟩ := h2
            rw [q]
            cases d2' with
            | p y =>
              cases rd'
              exact ⟨_, _, rfl, s'', g'.trans g'', rfl⟩
            | _ => trivial
      cases hb : itmK2 el2 (cd2 e21) with
      | no => trivial
      | ex c fs e22 => trivial
      | ok o e22 =>
        rw [hb] at body
        obtain ⟨o', S', q, s', g', rfl⟩ := body
        rw [q]
        have hlen : e22.length = e2.length := by
          rw [s'.len, ← ar.s.len, ar.s.len]
          have : e1.length = e.length := by
            have a := ar.s.len
            have : ∀ {tg : Tg} {d : D} {S : Store} {e e' : Env}, assignTg tg d S e = some e' → e'.length = e.length := by
              intro tg d S e e' h
              cases tg with
              | one i =>
                simp only [assignTg, Option.some.injEq] at h
                subst h
                simp
              | many is =>
                cases d with
                | p x =>
                  cases x with
                  | tup xs =>
                    simp only [assignTg] at h
                    have : ∀ (is : List Nat) (xs : List P) (e e' : Env), setMany is xs e = some e' → e'.length = e.length := by
                      intro is
                      induction is with
                      | nil =>
                        intro xs e e' h
                        cases xs with
                        | nil => simp only [setMany, Option.some.injEq] at h; subst h; rfl
                        | cons _ _ => simp [setMany] at h
                      | cons i is ih =>
                        intro xs e e' h
                        cases xs with
                        | nil => simp [setMany] at h
                        | cons x xs =>
                          simp only [setMany] at h
                          rw [ih _ _ _ h]
                          simp
                    exact this _ _ _ _ h
                  | _ => simp [assignTg] at h
                | _ => simp [assignTg] at h
            rw [this q1, wipeD_len]
          rw [this, s.len]
        have o1 : ∀ j, j ∉ vs → e21[j]? = e2[j]? ∧ e1[j]? = e[j]? := fun j hj => by
          obtain ⟨a, b⟩ := keep j (tgIn_out ht hj)
          rw [a, b, wipe2_out j vs e2 hj, wipeD_out j vs e hj]
          exact ⟨rfl, rfl⟩
        have bk : ∀ j, (j ∈ vs ∧ (back2 e2 e22 vs)[j]? = e2[j]?) ∨ (j ∉ vs ∧ (back2 e2 e22 vs)[j]? = e22[j]?) := fun j => by
          by_cases hj : j ∈ vs
          · exact .inl ⟨hj, back2_in e2 j vs e22 hlen hj⟩
          · exact .inr ⟨hj, back2_out e2 j vs e22 hj⟩
        have sub : ∀ j, isM (back2 e2 e22 vs)[j]? = true → j ∉ vs ∧ isM e22[j]? = true ∧ isM e2[j]? = true := fun j h => by
          rcases bk j with ⟨h1, h2⟩ | ⟨h1, h2⟩
          · rw [h2, noM hv h1] at h
            cases h
          · rw [h2] at h
            refine ⟨h1, h, ?_⟩
            have := g'.sub j h
            rwa [(o1 j h1).1] at this
        have own2 : ∀ l, Own e21 e1 l → Own e2 e l := fun l ⟨j, a, b⟩ => by
          by_cases hj : j ∈ vs
          · rcases ar.own l ⟨j, a, b⟩ with ⟨k, q1, q2⟩ | z
            · by_cases hk : k ∈ vs
              · rcases wipe2_in k vs e2 hk with z | z <;> rw [z] at q1 <;> cases q1
              · refine ⟨k, ?_, ?_⟩
                · rwa [wipe2_out k vs e2 hk] at q1
                · rwa [wipeD_out k vs e hk] at q2
            · have := ar.s.own_lt ⟨j, a, b⟩
              omega
          · obtain ⟨h1, h2⟩ := o1 j hj
            exact ⟨j, by rw [← h1]; exact a, by rw [← h2]; exact b⟩
        refine ⟨o, S', rfl, ⟨by rw [back2_len, hlen, s.len], fun j x q => ?_, fun j c fs q => ?_, fun j o q => ?_, fun j k l a b => ?_⟩, ⟨⟨g'.f.len, fun l hl => ?_, fun l ⟨j, a, b⟩ => .inl ⟨j, (sub j a).2.2, b⟩, fun j hj hm => ⟨?_, rfl⟩⟩, fun j h => (sub j h).2.2⟩, rfl⟩
        · rcases bk j with ⟨h1, h2⟩ | ⟨h1, h2⟩
          · rw [h2] at q
            exact s.p j x q
          · rw [h2] at q
            rw [← (o1 j h1).2]
            exact s'.p j x q
        · rcases bk j with ⟨h1, h2⟩ | ⟨h1, h2⟩
          · rw [h2] at q
            exact s.x j c fs q
          · rw [h2] at q
            rw [← (o1 j h1).2]
            exact s'.x j c fs q
        · obtain ⟨h1, h2, h3⟩ := sub j (by rw [q]; rfl)
          rcases bk j with ⟨z, _⟩ | ⟨_, z⟩
          · exact absurd z h1
          · rw [z] at q
            rw [← (o1 j h1).2]
            exact s'.m j o q
        · obtain ⟨h1, h2, h3⟩ := sub j a.a
          obtain ⟨k1, k2, k3⟩ := sub k b.a
          exact s.inj j k l ⟨h3, a.b⟩ ⟨k3, b.b⟩
        · rcases g'.f.old l hl with z | ⟨z1, z2⟩
          · exact .inl z
          · exact .inr ⟨own2 l z1, z2⟩
        · have hjv : j ∉ vs := fun z => by
            rw [noM hv z] at hm
            cases hm
          rcases bk j with ⟨z, _⟩ | ⟨_, z⟩
          · exact absurd z hjv
          · rw [z]
            have : isM e21[j]? = true := by rw [(o1 j hjv).1]; exact hm
            exact (g'.f.par j hj this).1
  · trivial
section
variable {rn2 : Rn2} {rn : Rn} {np : Nat} (hrn : RnSim rn2 rn)
include hrn
mutual
theorem evE_sim : ∀ (a : IE) (e2 : E2) (e : Env) (S : Store), Sim e2 e S → RelR np e2 e S (fun S' a b => RelD e S.length S' a b) (evE2 rn2 np a e2) (evE rn a e S)
  | .c x, e2, e, S, s => by
    simp only [evE2, evE]
    exact ⟨_, _, rfl, s, .refl, rfl⟩
  | .v i, e2, e, S, s => by
    simp only [evE2, evE]
    match he : e2[i]? with
    | none => trivial
    | some none => trivial
    | some (some (.p x)) => rw [s.p i x he]; exact ⟨_, _, rfl, s, .refl, rfl⟩
    | some (some (.x c fs)) => rw [s.x i c fs he]; exact ⟨_, _, rfl, s, .refl, rfl⟩
    | some (some (.m o)) =>
      obtain ⟨l, a, b, c⟩ := s.m i o he
      rw [a]
      exact ⟨_, _, rfl, s, .refl, l, rfl, a⟩
  | .op f es, e2, e, S, s => by
    simp only [evE2, evE]
    exact (evEs_sim es e2 e S s).bind (opY f) _ rfl (fun _ _ _ => rfl) fun ds2 e2' ds S' s' g' h => op_sim s' g' h.w
  | .pk f es, e2, e, S, s => by
    simp only [evE2, evE]
    refine (evEs_sim es e2 e S s).bind (pkY f) _ rfl (fun _ _ _ => rfl) fun ds2 e2' ds S' s' g' h => ?_
    simp only [pkY]
    cases hv : pures2 ds2 with
    | none => trivial
    | some xs =>
      rw [pures_sim h hv]
      simp only [Option.bind_some]
      refine lift_sim s' g' fun y hy => ?_
      rw [hy]
  | .call f es, e2, e, S, s => by
    simp only [evE2, evE]
    exact (evEs_sim es e2 e S s).bind (callK (rn2 f)) _ rfl (fun _ _ _ => rfl) fun ds2 e2' ds S' s' g' h => call_sim hrn s s' g' h
  | .and_ a b, e2, e, S, s => by
    simp only [evE2, evE]
    refine (evE_sim a e2 e S s).bind (andK _) _ rfl (fun _ _ _ => rfl) fun d2 e2' d S' s' g' h => ?_
    simp only [andK]
    exact bool_sim h ((evE_sim b e2' e S' s').rebase g' fun _ _ _ _ _ q => q.mono g'.f.len) ⟨_, _, rfl, s', g', rfl⟩
  | .or_ a b, e2, e, S, s => by
    simp only [evE2, evE]
    refine (evE_sim a e2 e S s).bind (orK _) _ rfl (fun _ _ _ => rfl) fun d2 e2' d S' s' g' h => ?_
    simp only [orK]
    exact bool_sim h ⟨_, _, rfl, s', g', rfl⟩ ((evE_sim b e2' e S' s').rebase g' fun _ _ _ _ _ q => q.mono g'.f.len)
  | .not_ a, e2, e, S, s => by
    simp only [evE2, evE]
    refine (evE_sim a e2 e S s).bind notK _ rfl (fun _ _ _ => rfl) fun d2 e2' d S' s' g' h => ?_
    simp only [notK]
    cases d2 with
    | p x =>
      cases h
      cases x with
      | bl b => cases b <;> exact ⟨_, _, rfl, s', g', rfl⟩
      | _ => trivial
    | _ => trivial
  | .ite t a b, e2, e, S, s => by
    simp only [evE2, evE]
    refine (evE_sim t e2 e S s).bind (iteK _ _) _ rfl (fun _ _ _ => rfl) fun d2 e2' d S' s' g' h => ?_
    simp only [iteK]
    exact bool_sim h ((evE_sim a e2' e S' s').rebase g' fun _ _ _ _ _ q => q.mono g'.f.len) ((evE_sim b e2' e S' s').rebase g' fun _ _ _ _ _ q => q.mono g'.f.len)
  | .chain f g a b c, e2, e, S, s => by
    simp only [evE2, evE]
    have h1 := evE_sim a e2 e S s
    cases q1 : evE2 rn2 np a e2 with
    | no => trivial
    | ex c' fs e2' =>
      rw [q1] at h1
      obtain ⟨S', q, s', g'⟩ := h1
      rw [q]
      exact ⟨S', rfl, s', g'⟩
    | ok d2 e2' =>
      rw [q1] at h1
      obtain ⟨d, S', q, s', g', rd⟩ := h1
      rw [q]
      simp only [consK, oneF, R.bind_ok]
      have h2 := evE_sim b e2' e S' s'
      cases q2 : evE2 rn2 np b e2' with
      | no => trivial
      | ex c' fs e2'' =>
        rw [q2] at h2
        obtain ⟨S'', q, s'', g''⟩ := h2
        rw [q]
        exact ⟨S'', rfl, s'', g'.trans g''⟩
      | ok d2' e2'' =>
        rw [q2] at h2
        obtain ⟨d', S'', q, s'', g'', rd'⟩ := h2
        rw [q]
        simp only [consK2, R.bind_ok]
        cases d2 with
        | p x =>
          cases rd
          cases d2' with
          | p y =>
            cases rd'
            simp only [chainK]
            cases hf : f x y with
            | none => trivial
            | some b =>
              cases b with
              | false => exact ⟨_, _, rfl, s'', g'.trans g'', rfl⟩
              | true =>
                simp only [chainB]
                have h3 : RelR np e2 e S (fun S' a b => RelD e S.length S' a b) (evE2 rn2 np c e2'') (evE rn c e S'') := (evE_sim c e2'' e S'' s'').rebase (g'.trans g'') fun _ _ _ _ _ q => q.mono (Nat.le_trans g'.f.len g''.f.len)
                refine h3.bind (chainE g y) _ rfl (fun _ _ _ => rfl) fun d2 e3 d S3 s3 g3 h => ?_
                · cases d2 with
                  | p z =>
                    cases h
                    simp only [chainE]
                    cases hg : g y z with
                    | none => trivial
                    | some r => exact ⟨_, _, rfl, s3, g3, rfl⟩
                  | _ => trivial
          | _ => trivial
        | _ => trivial
  | .comp vs tg f es cd elt, e2, e, S, s => by
    simp only [evE2, evE]
    refine (evEs_sim es e2 e S s).bind (compK _ f) _ rfl (fun _ _ _ => rfl) fun ds2 e2' ds S' s' g' h => ?_
    simp only [compK]
    cases hv : vals2 e2' ds2 with
    | none => trivial
    | some xs =>
      rw [vals_sim s' h hv]
      simp only [itemsY]
      cases hf : f xs with
      | none => trivial
      | some items =>
        simp only
        have hh : ∀ e2 S, Sim e2 e S → chkD2 ds2 xs e2 = true → decide (vals S ds = some xs) = true := fun e2'' S'' s'' q => decide_eq_true (valsW s'' h.w (of_decide_eq_true q))
        have := comp_sim (np := np) (e20 := e2) (S0 := S) hh (fun x e2 S s => item_sim (vs := vs) (tg := tg) (x := x) (fun e2 e S s => evE_sim cd e2 e S s) (fun e2 e S s => evE_sim elt e2 e S s) s) items e2' S' s' g'
        exact this.bind lstK _ rfl (fun _ _ _ => rfl) fun ys e3 zs S3 s3 g3 h => ⟨_, _, rfl, s3, g3, by rw [h]; rfl⟩
  | .part a, e2, e, S, s => by
    simp only [evE2, evE]
    refine (evE_sim a e2 e S s).bind partK _ rfl (fun _ _ _ => rfl) fun d2 e2' d S' s' g' h => ?_
    cases d2 with
    | p x =>
      cases h
      cases x with
      | int i => exact ⟨_, _, rfl, s', g', rfl⟩
      | _ => trivial
    | _ => trivial
  | .new a, e2, e, S, s => by
    simp only [evE2, evE]
    exact (evE_sim a e2 e S s).bind newK _ rfl (fun _ _ _ => rfl) fun d2 e2' d S' s' g' h => newK_sim s' g' g'.f.len h
  | .frz a, e2, e, S, s => by
    simp only [evE2, evE]
    exact (evE_sim a e2 e S s).bind (frzK np) _ rfl (fun _ _ _ => rfl) fun d2 e2' d S' s' g' h => frzK_sim s s' g' h
  | .meth T f a es, e2, e, S, s => by
    simp only [evE2, evE]
    refine (evE_sim a e2 e S s).bind (methK T f _) _ rfl (fun _ _ _ => rfl) fun d2 e2' d S' s' g' h => ?_
    simp only [methK]
    cases hv : val2 e2' d2 with
    | none => trivial
    | some x =>
      rw [val_sim s' h hv]
      simp only [methT]
      split
      · refine ((evEs_sim es e2' e S' s').bind (Q' := fun S' a b => RelD e S.length S' a b) (fun r => opY f (consK2 d2 r)) _ rfl (fun _ _ _ => rfl) fun ds2 e3 ds S3 s3 g3 hd => op_sim s3 g3 (show RelWs e (d2 :: ds2) (d :: ds) from ⟨h.w, hd.w⟩)).rebase g' fun _ _ _ _ _ q => q
      · trivial
  | .mut T g a es, e2, e, S, s => by
    simp only [evE2, evE]
    refine (evE_sim a e2 e S s).bind (mutK2 T g _) _ rfl (fun _ _ _ => rfl) fun d2 e2' d S' s' g' h => ?_
    cases d2 with
    | ref i =>
      obtain ⟨l, rfl, hi⟩ := h
      simp only [mutK2]
      cases hv : valK e2'[i]? with
      | none => trivial
      | some x =>
        rw [val_sim (a := .ref i) (B := 0) s' ⟨l, rfl, hi⟩ hv]
        simp only [methT]
        split
        · refine ((evEs_sim es e2' e S' s').bind (Q' := fun S' a b => RelD e S.length S' a b) (mutE g i) _ rfl (fun _ _ _ => rfl) fun ds2 e3 ds S3 s3 g3 h => ?_).rebase g' fun _ _ _ _ _ q => q
          simp only [mutE]
          cases hp : pures2 ds2 with
          | none => trivial
          | some xs =>
            rw [pures_sim h hp]
            exact mutS_sim s3 g3 hi
        · trivial
    | _ => trivial
  | .getr a k, e2, e, S, s => by
    simp only [evE2]
    trivial
  | .isx hits a, e2, e, S, s => by
    simp only [evE2, evE]
    refine (evE_sim a e2 e S s).bind (isxK hits) _ rfl (fun _ _ _ => rfl) fun d2 e2' d S' s' g' h => ?_
    cases d2 with
    | x c fs =>
      cases h
      exact ⟨_, _, rfl, s', g', rfl⟩
    | _ => trivial
  | .fld g a, e2, e, S, s => by
    simp only [evE2, evE]
    refine (evE_sim a e2 e S s).bind (fldK g) _ rfl (fun _ _ _ => rfl) fun d2 e2' d S' s' g' h => ?_
    cases d2 with
    | x c fs =>
      cases h
      simp only [fldK, fldD]
      cases hk : (g c).bind fun k => fs[k]? with
      | none => trivial
      | some x => exact ⟨_, _, rfl, s', g', rfl⟩
    | _ => trivial
theorem evEs_sim : ∀ (es : IEs) (e2 : E2) (e : Env) (S : Store), Sim e2 e S → RelR np e2 e S (fun S' a b => RelDs e S.length S' a b) (evEs2 rn2 np es e2) (evEs rn es e S)
  | .nil, e2, e, S, s => by
    simp only [evEs2, evEs]
    exact ⟨_, _, rfl, s, .refl, trivial⟩
  | .cons a r, e2, e, S, s => by
    simp only [evEs2, evEs]
    exact cons_sim (k := fun S1 => evEs rn r e S1) (evE_sim a e2 e S s) s fun e2 S s => evEs_sim r e2 e S s
end
end
end DL

/-! DVR: statements, defs -/
namespace DL
def RelY (np : Nat) (e2 : E2) (e : Env) (S : Store) : S2 → RS → Prop
  | .no, _ => True
  | .nx e2', r => ∃ e' S', r = .nx e' S' ∧ Sim e2' e' S' ∧ Frm np e2 e S e2' e' S'
  | .bk e2', r => ∃ e' S', r = .bk e' S' ∧ Sim e2' e' S' ∧ Frm np e2 e S e2' e' S'
  | .ct e2', r => ∃ e' S', r = .ct e' S' ∧ Sim e2' e' S' ∧ Frm np e2 e S e2' e' S'
  | .ex c fs e2', r => ∃ e' S', r = .ex c fs e' S' ∧ Sim e2' e' S' ∧ Frm np e2 e S e2' e' S'
  | .ret d2 e2', r => ∃ d e' S', r = .ret d S' ∧ Sim e2' e' S' ∧ Frm np e2 e S e2' e' S' ∧ RelD e' S.length S' d2 d
theorem RelY.rebase {np : Nat} {e2 e2' : E2} {e e' : Env} {S S' : Store} {r2 : S2} {r : RS} (h : RelY np e2' e' S' r2 r) (f : Frm np e2 e S e2' e' S') : RelY np e2 e S r2 r := by
  cases r2 with
  | no => trivial
  | nx e2'' => obtain ⟨a, b, c, d, g⟩ := h; exact ⟨a, b, c, d, f.trans g⟩
  | bk e2'' => obtain ⟨a, b, c, d, g⟩ := h; exact ⟨a, b, c, d, f.trans g⟩
  | ct e2'' => obtain ⟨a, b, c, d, g⟩ := h; exact ⟨a, b, c, d, f.trans g⟩
  | ex c fs e2'' => obtain ⟨a, b, c, d, g⟩ := h; exact ⟨a, b, c, d, f.trans g⟩
  | ret d2 e2'' => obtain ⟨d, a, b, c, s, g, q⟩ := h; exact ⟨d, a, b, c, s, f.trans g, q.mono f.len⟩
theorem RelR.go {α β : Type} {np : Nat} {e2 : E2} {e : Env} {S : Store} {Q : Store → α → β → Prop} {r2 : R2 α} {r : R β} (h : RelR np e2 e S Q r2 r) (K : R2 α → S2) (k : β → Store → RS)
    (hn : K .no = .no) (hx : ∀ c fs e, K (.ex c fs e) = .ex c fs e) (hk : ∀ a e2' b S', Sim e2' e S' → EFrm np e2 e S e2' S' → Q S' a b → RelY np e2 e S (K (.ok a e2')) (k b S')) : RelY np e2 e S (K r2) (r.go e k) := by
  cases r2 with
  | no => rw [hn]; trivial
  | ex c fs e2' =>
    obtain ⟨S', rfl, s, f⟩ := h
    rw [hx]
    exact ⟨e, S', rfl, s, f.f⟩
  | ok a e2' =>
    obtain ⟨b, S', rfl, s, f, q⟩ := h
    exact hk a e2' b S' s f q
theorem boolS_sim {np : Nat} {e2 : E2} {e : Env} {S : Store} {B : Nat} {T : Store} {d2 : D2} {d : D} (h : RelD e B T d2 d) {t2 f2 : S2} {t f no : RS}
    (ht : RelY np e2 e S t2 t) (hf : RelY np e2 e S f2 f) : RelY np e2 e S (boolK .no t2 f2 d2) (match trueD d with | some true => t | some false => f | none => no) := by
  cases d2 with
  | p x =>
    cases h
    cases x with
    | bl b => cases b <;> assumption
    | _ => trivial
  | _ => trivial
theorem AsgR.frm {np : Nat} {S0 S : Store} {e20 e2 e2' : E2} {e e' : Env} (g : EFrm np e20 e S0 e2 S) (a : AsgR np S0.length S e2 e e2' e') : Frm np e20 e S0 e2' e' S where
  len := g.f.len
  old := g.f.old
  own l h := by
    rcases a.own l h with q | q
    · exact .inl (g.own q)
    · exact .inr q
  par j hj h := by
    obtain ⟨p1, p2⟩ := g.f.par j hj h
    exact a.par j hj p1
/-! ### what is not written -/
def envOf : RS → Option Env
  | .nx e _ => some e
  | .bk e _ => some e
  | .ct e _ => some e
  | .ex _ _ e _ => some e
  | _ => none
theorem setMany_keep {i : Nat} : ∀ {is : List Nat} {xs : List P} {e e' : Env}, setMany is xs e = some e' → i ∉ is → e'[i]? = e[i]?
  | [], [], e, e', h, _ => by simp only [setMany, Option.some.injEq] at h; rw [h]
  | [], _ :: _, e, e', h, _ => by simp [setMany] at h
  | _ :: _, [], e, e', h, _ => by simp [setMany] at h
  | j :: is, x :: xs, e, e', h, hn => by
    simp only [List.mem_cons, not_or] at hn
    simp only [setMany] at h
    rw [setMany_keep h hn.2, List.getElem?_set_ne (fun z => hn.1 z.symm)]
theorem asg_keep {i : Nat} {tg : Tg} {d : D} {S : Store} {e e' : Env} (h : assignTg tg d S e = some e') (hn : tgFree i tg = true) : e'[i]? = e[i]? := by
  cases tg with
  | one j =>
    simp only [assignTg, Option.some.injEq] at h
    subst h
    rw [List.getElem?_set_ne (of_decide_eq_true hn)]
  | many is =>
    match d, h with
    | .p (.tup xs), h =>
      refine setMany_keep h ?_
      simpa [tgFree] using hn
theorem envOf_suite {slot : Option Nat} {r : RS} {e' : Env} (h : envOf (suiteEnd slot r) = some e') : ∃ e0, envOf r = some e0 ∧ wipeO slot (clearX e0) = e' := by
  cases r with
  | nx e S => exact ⟨e, rfl, Option.some.inj h⟩
  | bk e S => exact ⟨e, rfl, Option.some.inj h⟩
  | ct e S => exact ⟨e, rfl, Option.some.inj h⟩
  | ret d S =>
    simp only [suiteEnd] at h
    split at h <;> simp [envOf] at h
  | ex c fs e S => simp [suiteEnd, envOf] at h
  | no => simp [suiteEnd, envOf] at h
theorem forL_keep {i : Nat} {chk : Store → Bool} {f : P → Env → Store → RS} (hf : ∀ x e S e', envOf (f x e S) = some e' → e'[i]? = e[i]?) : ∀ (xs : List P) (e : Env) (S : Store) (e' : Env), envOf (forL chk f xs e S) = some e' → e'[i]? = e[i]?
  | [], e, S, e', h => by
    simp only [forL] at h
    split at h
    · simp only [envOf, Option.some.injEq] at h
      rw [h]
    · simp [envOf] at h
  | x :: r, e, S, e', h => by
    simp only [forL] at h
    split at h
    · have h1 := hf x e S
      cases hq : f x e S with
      | nx e1 S1 => rw [hq] at h h1; rw [forL_keep hf r e1 S1 e' h]; exact h1 e1 rfl
      | ct e1 S1 => rw [hq] at h h1; rw [forL_keep hf r e1 S1 e' h]; exact h1 e1 rfl
      | bk e1 S1 => rw [hq] at h h1; simp only [envOf, Option.some.injEq] at h; subst h; exact h1 _ rfl
      | ex c fs e1 S1 => rw [hq] at h h1; simp only [envOf, Option.some.injEq] at h; subst h; exact h1 _ rfl
      | ret d S1 => rw [hq] at h; simp [envOf] at h
      | no => rw [hq] at h; simp [envOf] at h
    · simp [envOf] at h
theorem go_keep {α : Type} {i : Nat} {r : R α} {e e' : Env} {k : α → Store → RS} (hk : ∀ a S e', envOf (k a S) = some e' → e'[i]? = e[i]?) (h : envOf (r.go e k) = some e') : e'[i]? = e[i]? := by
  cases r with
  | no => simp [R.go, envOf] at h
  | ex c fs S =>
    simp only [R.go, envOf, Option.some.injEq] at h
    rw [h]
  | ok a S => exact hk a S e' h
theorem whlL_keep {i : Nat} {c : Env → Store → R D} {f : Env → Store → RS} (hf : ∀ e S e', envOf (f e S) = some e' → e'[i]? = e[i]?) : ∀ (n : Nat) (e : Env) (S : Store) (e' : Env), envOf (whlL c f n e S) = some e' → e'[i]? = e[i]?
  | 0, e, S, e', h => by simp [whlL, envOf] at h
  | n + 1, e, S, e', h => by
    simp only [whlL] at h
    refine go_keep (fun d S1 e' h => ?_) h
    have h1 := hf e S1
    split at h
    · cases hq : f e S1 with
      | nx e1 S1 => rw [hq] at h h1; rw [whlL_keep hf n e1 S1 e' h]; exact h1 e1 rfl
      | ct e1 S1 => rw [hq] at h h1; rw [whlL_keep hf n e1 S1 e' h]; exact h1 e1 rfl
      | bk e1 S1 => rw [hq] at h h1; simp only [envOf, Option.some.injEq] at h; subst h; exact h1 _ rfl
      | ex c fs e1 S1 => rw [hq] at h h1; simp only [envOf, Option.some.injEq] at h; subst h; exact h1 _ rfl
      | ret d S1 => rw [hq] at h; simp [envOf] at h
      | no => rw [hq] at h; simp [envOf] at h
    · simp only [envOf, Option.some.injEq] at h
      rw [h]
    · simp [envOf] at h
section
variable {rn : Rn} {w i : Nat}
mutual
theorem evS_keep : ∀ (t : IS) (e : Env) (S : Store) (e' : Env), nasg i t = true → envOf (evS rn w t e S) = some e' → e'[i]? = e[i]?
  | .asg tg a, e, S, e', hn, h => by
    simp only [evS] at h
    refine go_keep (fun d S1 e' h => ?_) h
    cases hq : assignTg tg d S1 e with
    | none => rw [hq] at h; simp [envOf] at h
    | some e1 =>
      rw [hq] at h
      simp only [envOf, Option.some.injEq] at h
      subst h
      refine asg_keep hq ?_
      cases tg <;> simpa [nasg, tgFree] using hn
  | .expr a, e, S, e', hn, h => by
    simp only [evS] at h
    refine go_keep (fun d S1 e' h => ?_) h
    simp only [envOf, Option.some.injEq] at h
    rw [h]
  | .ret a, e, S, e', hn, h => by
    simp only [evS] at h
    refine go_keep (fun d S1 e' h => ?_) h
    simp [envOf] at h
  | .iff t a b, e, S, e', hn, h => by
    simp only [nasg, Bool.and_eq_true] at hn
    simp only [evS] at h
    refine go_keep (fun d S1 e' h => ?_) h
    split at h
    · exact evSs_keep a e S1 e' hn.1 h
    · exact evSs_keep b e S1 e' hn.2 h
    · simp [envOf] at h
  | .for_ tg f es b, e, S, e', hn, h => by
    have hn' : tgFree i tg = true ∧ nasgs i b = true := by
      cases tg <;> simpa [nasg, tgFree] using hn
    simp only [evS] at h
    refine go_keep (fun d S1 e' h => ?_) h
    split at h
    · split at h
      · refine forL_keep (fun x e S e' h => ?_) _ _ _ _ h
        cases hq : assignTg tg (.p x) S e with
        | none => rw [hq] at h; simp [envOf] at h
        | some e1 =>
          rw [hq] at h
          rw [evSs_keep b e1 S e' hn'.2 h, asg_keep hq hn'.1]
      · simp [envOf] at h
    · simp [envOf] at h
  | .whl t b, e, S, e', hn, h => by
    simp only [nasg] at hn
    simp only [evS] at h
    exact whlL_keep (fun e S e' h => evSs_keep b e S e' hn h) _ _ _ _ h
  | .pass, e, S, e', hn, h => by
    simp only [evS, envOf, Option.some.injEq] at h
    rw [h]
  | .brk, e, S, e', hn, h => by
    simp only [evS, envOf, Option.some.injEq] at h
    rw [h]
  | .cnt, e, S, e', hn, h => by
    simp only [evS, envOf, Option.some.injEq] at h
    rw [h]
  | .sub g a k v, e, S, e', hn, h => by
    simp only [evS] at h
    refine go_keep (fun d S1 e' h => go_keep (fun d S1 e' h => go_keep (fun d S1 e' h => ?_) h) h) h
    split at h
    · refine go_keep (fun d S1 e' h => ?_) h
      simp only [envOf, Option.some.injEq] at h
      rw [h]
    · simp [envOf] at h
  | .putr d k v, e, S, e', hn, h => by
    simp only [evS] at h
    refine go_keep (fun d S1 e' h => go_keep (fun d S1 e' h => go_keep (fun d S1 e' h => ?_) h) h) h
    unfold putrD at h
    split at h
    · split at h
      · split at h
        · simp only [envOf, Option.some.injEq] at h
          rw [h]
        · simp [envOf] at h
      · simp only [envOf, Option.some.injEq] at h
        rw [h]
      · simp [envOf] at h
    · simp [envOf] at h
  | .raise c es, e, S, e', hn, h => by
    simp only [evS] at h
    refine go_keep (fun d S1 e' h => ?_) h
    split at h
    · simp only [envOf, Option.some.injEq] at h
      rw [h]
    · simp [envOf] at h
  | .try_ b hits slot hd, e, S, e', hn, h => by
    simp only [nasg, Bool.false_eq_true] at hn
theorem evSs_keep : ∀ (t : ISs) (e : Env) (S : Store) (e' : Env), nasgs i t = true → envOf (evSs rn w t e S) = some e' → e'[i]? = e[i]?
  | .nil, e, S, e', hn, h => by
    simp only [evSs, envOf, Option.some.injEq] at h
    rw [h]
  | .cons t r, e, S, e', hn, h => by
    simp only [nasgs, Bool.and_eq_true] at hn
    simp only [evSs] at h
    have h1 := fun e' => evS_keep t e S e' hn.1
    cases hq : evS rn w t e S with
    | nx e1 S1 => rw [hq] at h h1; rw [evSs_keep r e1 S1 e' hn.2 h]; exact h1 e1 rfl
    | ct e1 S1 => rw [hq] at h h1; exact h1 e' h
    | bk e1 S1 => rw [hq] at h h1; exact h1 e' h
    | ex c fs e1 S1 => rw [hq] at h h1; exact h1 e' h
    | ret d S1 => rw [hq] at h; simp [envOf] at h
    | no => rw [hq] at h; simp [envOf] at h
end
end
/-! ### loops -/
theorem for_sim {np : Nat} {chk2 : E2 → Bool} {chk : Store → Bool} {f2 : P → E2 → S2} {f : P → Env → Store → RS} (I : Env → Prop) (hI : ∀ x e S e', I e → envOf (f x e S) = some e' → I e')
    (hc : ∀ e2 e S, I e → Sim e2 e S → chk2 e2 = true → chk S = true) (hf : ∀ x e2 e S, Sim e2 e S → RelY np e2 e S (f2 x e2) (f x e S)) : ∀ (items : List P) (e2 : E2) (e : Env) (S : Store), I e → Sim e2 e S → RelY np e2 e S (forL2 chk2 f2 items e2) (forL chk f items e S)
  | [], e2, e, S, i, s => by
    simp only [forL2, forL]
    split
    · rename_i h
      rw [if_pos (hc e2 e S i s h)]
      exact ⟨_, _, rfl, s, .refl⟩
    · trivial
  | x :: r, e2, e, S, i, s => by
    simp only [forL2, forL]
    split
    · rename_i h
      rw [if_pos (hc e2 e S i s h)]
      have h1 := hf x e2 e S s
      have h2 := hI x e S
      cases hq : f2 x e2 with
      | no => trivial
      | nx e2' =>
        rw [hq] at h1
        obtain ⟨e', S', q, s', g⟩ := h1
        rw [q] at h2 ⊢
        exact (for_sim I hI hc hf r e2' e' S' (h2 e' i rfl) s').rebase g
      | ct e2' =>
        rw [hq] at h1
        obtain ⟨e', S', q, s', g⟩ := h1
        rw [q] at h2 ⊢
        exact (for_sim I hI hc hf r e2' e' S' (h2 e' i rfl) s').rebase g
      | bk e2' =>
        rw [hq] at h1
        obtain ⟨e', S', q, s', g⟩ := h1
        rw [q]
        exact ⟨e', S', rfl, s', g⟩
      | ex c fs e2' =>
        rw [hq] at h1
        obtain ⟨e', S', q, s', g⟩ := h1
        rw [q]
        exact ⟨e', S', rfl, s', g⟩
      | ret d2 e2' =>
        rw [hq] at h1
        obtain ⟨d, e', S', q, s', g, rd⟩ := h1
        rw [q]
        exact ⟨d, e', S', rfl, s', g, rd⟩
    · trivial
theorem Sim.wipe1 {e2 : E2} {e : Env} {S : Store} (s : Sim e2 e S) (i : Nat) : Sim (e2.set i none) (e.set i none) S := by
  have get : ∀ {α : Type} {l : List (Option α)} {j : Nat} {x : α}, (l.set i none)[j]? = some (some x) → i ≠ j ∧ l[j]? = some (some x) := fun {α l j x} q => by
    by_cases hij : i = j
    · subst hij
      rw [List.getElem?_set] at q
      split at q
      · split at q <;> cases q
      · exact absurd rfl (by assumption)
    · rw [List.getElem?_set_ne hij] at q
      exact ⟨hij, q⟩
  have ow : ∀ j l, OwnAt (e2.set i none) (e.set i none) j l → OwnAt e2 e j l := fun j l q => by
    obtain ⟨n, b⟩ := get q.b
    have a := q.a
    rw [List.getElem?_set_ne n] at a
    exact ⟨a, b⟩
  refine ⟨by simpa using s.len, fun j x q => ?_, fun j c fs q => ?_, fun j o q => ?_, fun j k l a b => s.inj j k l (ow j l a) (ow k l b)⟩
  · obtain ⟨n, q⟩ := get q
    rw [List.getElem?_set_ne n]
    exact s.p j x q
  · obtain ⟨n, q⟩ := get q
    rw [List.getElem?_set_ne n]
    exact s.x j c fs q
  · obtain ⟨n, q⟩ := get q
    rw [List.getElem?_set_ne n]
    exact s.m j o q
theorem Frm.wipe1 {np : Nat} {e2 : E2} {e : Env} {S : Store} {i : Nat} (hf : freeS np e2 i = true) : Frm np e2 e S (e2.set i none) (e.set i none) S := by
  refine ⟨Nat.le_refl _, fun l h => .inl rfl, fun l q => ?_, fun j hj q => ?_⟩
  · obtain ⟨j, a, b⟩ := q
    have n : i ≠ j := fun z => by
      subst z
      rw [List.getElem?_set] at a
      split at a
      · split at a <;> cases a
      · exact absurd rfl (by assumption)
    rw [List.getElem?_set_ne n] at a b
    exact .inl ⟨j, a, b⟩
  · have n : i ≠ j := fun z => by
      subst z
      simp only [freeS, q, Bool.not_true, Bool.or_false, decide_eq_true_eq] at hf
      omega
    rw [List.getElem?_set_ne n, List.getElem?_set_ne n]
    exact ⟨q, rfl⟩
theorem clearX2_get : ∀ {e : E2} {j : Nat}, (clearX2 e)[j]? = e[j]?.map clr2
  | [], j => by simp [clearX2]
  | a :: r, 0 => by simp [clearX2]
  | a :: r, j + 1 => by simp [clearX2, clearX2_get (e := r)]
theorem clearX2_len : ∀ {e : E2}, (clearX2 e).length = e.length
  | [] => rfl
  | a :: r => by simp [clearX2, clearX2_len (e := r)]
theorem clr2_some {o : Option (Option V)} {v : V} (h : o.map clr2 = some (some v)) : o = some (some v) ∧ ∀ c fs, v ≠ .x c fs := by
  cases o with
  | none => cases h
  | some a =>
    cases a with
    | none => cases h
    | some u => cases u <;> cases h <;> exact ⟨rfl, fun _ _ z => by cases z⟩
theorem clr_some {o : Option (Option D)} {v : D} (h : o = some (some v)) (n : ∀ c fs, v ≠ .exc c fs) : o.map clr = some (some v) := by
  subst h
  cases v with
  | exc c fs => exact absurd rfl (n c fs)
  | _ => rfl
theorem clr_inv {o : Option (Option D)} {v : D} (h : o.map clr = some (some v)) : o = some (some v) := by
  cases o with
  | none => cases h
  | some a =>
    cases a with
    | none => cases h
    | some u => cases u <;> cases h <;> rfl
theorem isM_clr {e2 : E2} {i : Nat} : isM (clearX2 e2)[i]? = isM e2[i]? := by
  rw [clearX2_get]
  cases e2[i]? with
  | none => rfl
  | some a =>
    cases a with
    | none => rfl
    | some v => cases v <;> rfl
theorem own_clr {e2 : E2} {e : Env} {i l : Nat} (q : OwnAt (clearX2 e2) (clearX e) i l) : OwnAt e2 e i l := by
  refine ⟨by rw [← isM_clr]; exact q.a, ?_⟩
  have b := q.b
  unfold clearX at b
  rw [List.getElem?_map] at b
  exact clr_inv b
theorem Sim.clr {e2 : E2} {e : Env} {S : Store} (s : Sim e2 e S) : Sim (clearX2 e2) (clearX e) S := by
  refine ⟨by rw [clearX2_len]; unfold clearX; simpa using s.len, fun j x q => ?_, fun j c fs q => ?_, fun j o q => ?_, fun j k l a b => s.inj j k l (own_clr a) (own_clr b)⟩
  · rw [clearX2_get] at q
    unfold clearX
    rw [List.getElem?_map]
    exact clr_some (s.p j x (clr2_some q).1) fun _ _ z => by cases z
  · rw [clearX2_get] at q
    exact absurd rfl ((clr2_some q).2 c fs)
  · rw [clearX2_get] at q
    obtain ⟨l, a, b, c⟩ := s.m j o (clr2_some q).1
    refine ⟨l, ?_, b, c⟩
    unfold clearX
    rw [List.getElem?_map]
    exact clr_some a fun _ _ z => by cases z
theorem Frm.clr {np : Nat} {e2 : E2} {e : Env} {S : Store} (s : Sim e2 e S) : Frm np e2 e S (clearX2 e2) (clearX e) S := by
  refine ⟨Nat.le_refl _, fun l h => .inl rfl, fun l q => ?_, fun j hj q => ⟨by rw [isM_clr]; exact q, ?_⟩⟩
  · obtain ⟨j, o⟩ := q
    exact .inl ⟨j, own_clr o⟩
  · obtain ⟨o, q⟩ := isM_iff.mp q
    obtain ⟨l, a, _⟩ := s.m j o q
    unfold clearX
    rw [List.getElem?_map, clr_some a (fun _ _ z => by cases z)]
    exact a.symm
theorem suite_sim {np : Nat} {e2 : E2} {e : Env} {S : Store} (slot : Option Nat) {r2 : S2} {r : RS} (h : RelY np e2 e S r2 r) : RelY np e2 e S (suite2 np slot r2) (suiteEnd slot r) := by
  cases r2 with
  | no => trivial
  | ex c fs e2' => trivial
  | ret d2 e2' =>
    obtain ⟨d, e', S', q, s', g, rd⟩ := h
    rw [q]
    simp only [suite2, suiteEnd]
    split
    · rename_i hn
      have : noExcD d = true := by
        cases d2 with
        | x c fs => cases hn
        | p x => rw [show d = _ from rd]; rfl
        | ref i => obtain ⟨l, rfl, _⟩ := rd; rfl
        | fr o => obtain ⟨l, rfl, _⟩ := rd; rfl
      rw [if_pos this]
      exact ⟨d, e', S', rfl, s', g, rd⟩
    · trivial
  | nx e2' =>
    obtain ⟨e', S', q, s', g⟩ := h
    rw [q]
    cases slot with
    | none => exact ⟨_, S', rfl, s'.clr, g.trans (.clr s')⟩
    | some i =>
      simp only [suite2, clrY]
      split
      · exact ⟨_, S', rfl, s'.clr.wipe1 i, (g.trans (.clr s')).trans (.wipe1 (by assumption))⟩
      · trivial
  | bk e2' =>
    obtain ⟨e', S', q, s', g⟩ := h
    rw [q]
    cases slot with
    | none => exact ⟨_, S', rfl, s'.clr, g.trans (.clr s')⟩
    | some i =>
      simp only [suite2, clrY]
      split
      · exact ⟨_, S', rfl, s'.clr.wipe1 i, (g.trans (.clr s')).trans (.wipe1 (by assumption))⟩
      · trivial
  | ct e2' =>
    obtain ⟨e', S', q, s', g⟩ := h
    rw [q]
    cases slot with
    | none => exact ⟨_, S', rfl, s'.clr, g.trans (.clr s')⟩
    | some i =>
      simp only [suite2, clrY]
      split
      · exact ⟨_, S', rfl, s'.clr.wipe1 i, (g.trans (.clr s')).trans (.wipe1 (by assumption))⟩
      · trivial
theorem whl_sim {np : Nat} {c2 : E2 → R2 D2} {c : Env → Store → R D} {f2 : E2 → S2} {f : Env → Store → RS} (hc : ∀ e2 e S, Sim e2 e S → RelR np e2 e S (fun S' a b => RelD e S.length S' a b) (c2 e2) (c e S)) (hf : ∀ e2 e S, Sim e2 e S → RelY np e2 e S (f2 e2) (f e S)) :
    ∀ (n : Nat) (e2 : E2) (e : Env) (S : Store), Sim e2 e S → RelY np e2 e S (whlL2 c2 f2 n e2) (whlL c f n e S)
  | 0, e2, e, S, s => trivial
  | n + 1, e2, e, S, s => by
    simp only [whlL2, whlL]
    refine (hc e2 e S s).go (whlB _ f2) _ rfl (fun _ _ _ => rfl) fun d2 e2' d S' s' g' h => ?_
    simp only [whlB]
    refine boolS_sim h ?_ ⟨_, _, rfl, s', g'.f⟩
    have h1 := hf e2' e S' s'
    cases hq : f2 e2' with
    | no => trivial
    | nx e2'' =>
      rw [hq] at h1
      obtain ⟨e', S'', q, s'', g⟩ := h1
      rw [q]
      exact ((whl_sim hc hf n e2'' e' S'' s'').rebase g).rebase g'.f
    | ct e2'' =>
      rw [hq] at h1
      obtain ⟨e', S'', q, s'', g⟩ := h1
      rw [q]
      exact ((whl_sim hc hf n e2'' e' S'' s'').rebase g).rebase g'.f
    | bk e2'' =>
      rw [hq] at h1
      obtain ⟨e', S'', q, s'', g⟩ := h1
      rw [q]
      exact ⟨e', S'', rfl, s'', g'.f.trans g⟩
    | ex c fs e2'' =>
      rw [hq] at h1
      obtain ⟨e', S'', q, s'', g⟩ := h1
      rw [q]
      exact ⟨e', S'', rfl, s'', g'.f.trans g⟩
    | ret d2 e2'' =>
      rw [hq] at h1
      obtain ⟨d, e', S'', q, s'', g, rd⟩ := h1
      rw [q]
      exact ⟨d, e', S'', rfl, s'', g'.f.trans g, rd.mono g'.f.len⟩
/-- the things walked are as they were -/
def KeepI (ds2 : List D2) (e0 e : Env) : Prop := ∀ i, i ∈ refsOf ds2 → e[i]? = e0[i]?
theorem keepW {e0 e : Env} : ∀ {ds2 : List D2} {ds : List D}, KeepI ds2 e0 e → RelWs e0 ds2 ds → RelWs e ds2 ds
  | [], [], _, h => h
  | [], _ :: _, _, h => h.elim
  | _ :: _, [], _, h => h.elim
  | .p x :: r, d :: s, k, ⟨h1, h2⟩ => ⟨h1, keepW (fun i hi => k i hi) h2⟩
  | .x c fs :: r, d :: s, k, ⟨h1, h2⟩ => ⟨h1, keepW (fun i hi => k i hi) h2⟩
  | .fr o :: r, d :: s, k, ⟨h1, h2⟩ => ⟨h1, keepW (fun i hi => k i hi) h2⟩
  | .ref i :: r, d :: s, k, ⟨⟨l, h0, h1⟩, h2⟩ => ⟨⟨l, h0, by rw [k i (by simp [refsOf])]; exact h1⟩, keepW (fun j hj => k j (by simp [refsOf, hj])) h2⟩
theorem walk_nasg {tg : Tg} {b : ISs} : ∀ {ds2 : List D2}, walkOk tg b ds2 = true → ∀ i, i ∈ refsOf ds2 → tgFree i tg = true ∧ nasgs i b = true
  | [], _, i, hi => by simp [refsOf] at hi
  | .p x :: r, h, i, hi => walk_nasg (ds2 := r) (by simpa [walkOk] using h) i (by simpa [refsOf] using hi)
  | .x c fs :: r, h, i, hi => walk_nasg (ds2 := r) (by simpa [walkOk] using h) i (by simpa [refsOf] using hi)
  | .fr o :: r, h, i, hi => walk_nasg (ds2 := r) (by simpa [walkOk] using h) i (by simpa [refsOf] using hi)
  | .ref j :: r, h, i, hi => by
    simp only [walkOk, Bool.and_eq_true] at h
    simp only [refsOf, List.mem_cons] at hi
    rcases hi with rfl | hi
    · exact h.1
    · exact walk_nasg h.2 i hi
theorem expr_go {np : Nat} {e2 : E2} {e : Env} {S : Store} {Q : Store → D2 → D → Prop} {r2 : R2 D2} {r : R D} (h : RelR np e2 e S Q r2 r) : RelY np e2 e S (exprK r2) (r.go e fun _ S1 => .nx e S1) := h.go exprK _ rfl (fun _ _ _ => rfl) fun d2 e2' d S' s' g' h => ⟨_, _, rfl, s', g'.f⟩
section
variable {rn2 : Rn2} {rn : Rn} {w np : Nat} (hrn : RnSim rn2 rn)
include hrn
mutual
theorem evS_sim : ∀ (t : IS) (e2 : E2) (e : Env) (S : Store), Sim e2 e S → RelY np e2 e S (evS2 rn2 w np t e2) (evS rn w t e S)
  | .asg tg a, e2, e, S, s => by
    simp only [evS2, evS]
    refine (evE_sim hrn a e2 e S s).go (asgK np tg) _ rfl (fun _ _ _ => rfl) fun d2 e2' d S' s' g' h => ?_
    simp only [asgK]
    cases hq : assignTg2 np tg d2 e2' with
    | none => trivial
    | some e2'' =>
      obtain ⟨e', q, ar, _⟩ := asg_sim s' (fun l q => s.own_lt (g'.own q)) h hq
      rw [q]
      exact ⟨_, _, rfl, ar.s, ar.frm g'⟩
  | .expr a, e2, e, S, s => by
    simp only [evS2, evS]
    exact expr_go (evE_sim hrn a e2 e S s)
  | .ret a, e2, e, S, s => by
    simp only [evS2, evS]
    exact (evE_sim hrn a e2 e S s).go retK _ rfl (fun _ _ _ => rfl) fun d2 e2' d S' s' g' h => ⟨_, _, _, rfl, s', g'.f, h⟩
  | .iff t a b, e2, e, S, s => by
    simp only [evS2, evS]
    refine (evE_sim hrn t e2 e S s).go (iffK _ _) _ rfl (fun _ _ _ => rfl) fun d2 e2' d S' s' g' h => ?_
    simp only [iffK]
    exact boolS_sim h ((evSs_sim a e2' e S' s').rebase g'.f) ((evSs_sim b e2' e S' s').rebase g'.f)
  | .for_ tg f es b, e2, e, S, s => by
    simp only [evS2, evS]
    refine (evEs_sim hrn es e2 e S s).go (forK2 np tg b f _) _ rfl (fun _ _ _ => rfl) fun ds2 e2' ds S' s' g' h => ?_
    simp only [forK2]
    split
    · rename_i hw
      cases hv : vals2 e2' ds2 with
      | none => trivial
      | some xs =>
        rw [valsW s' h.w hv]
        simp only [itemsY]
        cases hf : f xs with
        | none => trivial
        | some items =>
          simp only
          refine (for_sim (KeepI ds2 e) (fun x e1 S1 e' hI hq => ?_) (fun e2 e1 S1 hI s1 hc => ?_) (fun x e2 e1 S1 s1 => ?_) items e2' e S' (fun i hi => rfl) s').rebase g'.f
          · intro i hi
            obtain ⟨n1, n2⟩ := walk_nasg hw i hi
            rw [← hI i hi]
            cases ha : assignTg tg (.p x) S1 e1 with
            | none => rw [ha] at hq; simp [envOf] at hq
            | some e2 =>
              rw [ha] at hq
              rw [evSs_keep b e2 S1 e' n2 hq, asg_keep ha n1]
          · exact decide_eq_true (valsW s1 (keepW hI h.w) (of_decide_eq_true hc))
          · unfold forItem2
            cases ha : assignTg2 np tg (.p x) e2 with
            | none => trivial
            | some e2'' =>
              obtain ⟨e', q, ar, _⟩ := asg_sim (d2 := .p x) (d := .p x) (B := S1.length) s1 (fun l q => s1.own_lt q) rfl ha
              rw [q]
              exact (evSs_sim b e2'' e' S1 ar.s).rebase (ar.frm .refl)
    · trivial
  | .whl t b, e2, e, S, s => by
    simp only [evS2, evS]
    exact whl_sim (fun e2 e S s => evE_sim hrn t e2 e S s) (fun e2 e S s => evSs_sim b e2 e S s) w e2 e S s
  | .pass, e2, e, S, s => by
    simp only [evS2, evS]
    exact ⟨_, _, rfl, s, .refl⟩
  | .brk, e2, e, S, s => by
    simp only [evS2, evS]
    exact ⟨_, _, rfl, s, .refl⟩
  | .cnt, e2, e, S, s => by
    simp only [evS2, evS]
    exact ⟨_, _, rfl, s, .refl⟩
  | .sub g a k v, e2, e, S, s => by
    simp only [evS2, evS]
    have h1 := evE_sim (np := np) hrn v e2 e S s
    cases q1 : evE2 rn2 np v e2 with
    | no => trivial
    | ex c' fs e2' =>
      rw [q1] at h1
      obtain ⟨S', q, s', g'⟩ := h1
      rw [q]
      exact ⟨e, S', rfl, s', g'.f⟩
    | ok d2 e2' =>
      rw [q1] at h1
      obtain ⟨d, S', q, s', g', rd⟩ := h1
      rw [q]
      simp only [consK, twoF, R.go_ok]
      have h2 := evE_sim (np := np) hrn a e2' e S' s'
      cases q2 : evE2 rn2 np a e2' with
      | no => trivial
      | ex c' fs e2'' =>
        rw [q2] at h2
        obtain ⟨S'', q, s'', g''⟩ := h2
        rw [q]
        exact ⟨e, S'', rfl, s'', (g'.trans g'').f⟩
      | ok d2' e2'' =>
        rw [q2] at h2
        obtain ⟨d', S'', q, s'', g'', rd'⟩ := h2
        rw [q]
        simp only [consK2, oneF, R.go_ok]
        have h3 := evE_sim (np := np) hrn k e2'' e S'' s''
        cases q3 : evE2 rn2 np k e2'' with
        | no => trivial
        | ex c' fs e3 =>
          rw [q3] at h3
          obtain ⟨S3, q, s3, g3⟩ := h3
          rw [q]
          exact ⟨e, S3, rfl, s3, ((g'.trans g'').trans g3).f⟩
        | ok d3' e3 =>
          rw [q3] at h3
          obtain ⟨d3, S3, q, s3, g3, rd3⟩ := h3
          rw [q]
          simp only [consK, consK2, R.go_ok]
          match d2, d2', d3', rd, rd', rd3 with
          | .p y, .ref i, .p x, rd, ⟨l, rl, hi⟩, rd3 =>
            cases rd
            cases rd3
            subst rl
            simp only [subK]
            exact expr_go (mutS_sim (B := 0) s3 ((g'.trans g'').trans g3) hi)
          | .ref _, _, _, _, _, _ => trivial
          | .fr _, _, _, _, _, _ => trivial
          | .x _ _, _, _, _, _, _ => trivial
          | .p y, .p _, _, _, _, _ => trivial
          | .p y, .fr _, _, _, _, _ => trivial
          | .p y, .x _ _, _, _, _, _ => trivial
          | .p y, .ref _, .ref _, _, _, _ => trivial
          | .p y, .ref _, .fr _, _, _, _ => trivial
          | .p y, .ref _, .x _ _, _, _, _ => trivial
  | .putr d k v, e2, e, S, s => by
    simp only [evS2]
    trivial
  | .raise c es, e2, e, S, s => by
    simp only [evS2, evS]
    refine (evEs_sim hrn es e2 e S s).go (raiseK c) _ rfl (fun _ _ _ => rfl) fun ds2 e2' ds S' s' g' h => ?_
    simp only [raiseK]
    cases hv : pures2 ds2 with
    | none => trivial
    | some xs =>
      rw [pures_sim h hv]
      exact ⟨_, _, rfl, s', g'.f⟩
  | .try_ b hits slot hd, e2, e, S, s => by
    simp only [evS2, evS]
    have h1 := evSs_sim b e2 e S s
    cases hq : evSs2 rn2 w np b e2 with
    | no => trivial
    | nx e2'' => rw [hq] at h1; obtain ⟨e', S'', q, s'', g⟩ := h1; rw [q]; exact ⟨e', S'', rfl, s'', g⟩
    | ct e2'' => rw [hq] at h1; obtain ⟨e', S'', q, s'', g⟩ := h1; rw [q]; exact ⟨e', S'', rfl, s'', g⟩
    | bk e2'' => rw [hq] at h1; obtain ⟨e', S'', q, s'', g⟩ := h1; rw [q]; exact ⟨e', S'', rfl, s'', g⟩
    | ret d2 e2'' => rw [hq] at h1; obtain ⟨d, e', S'', q, s'', g, rd⟩ := h1; rw [q]; exact ⟨d, e', S'', rfl, s'', g, rd⟩
    | ex c fs e2' =>
      rw [hq] at h1
      obtain ⟨e', S', q, s', g⟩ := h1
      rw [q]
      simp only [tryK]
      split
      · cases slot with
        | none => exact (suite_sim none (evSs_sim hd e2' e' S' s')).rebase g
        | some i =>
          simp only [catchK]
          split
          · rename_i hf
            obtain ⟨a, b⟩ := Frm.put (B := S'.length) (S := S') (e := e') (v := .x c fs) (d := .exc c fs) rfl hf
            have s1 : Sim (e2'.set i (some (.x c fs))) (e'.set i (some (.exc c fs))) S' := s'.put (fun l q => s'.own_lt q) (v := .x c fs) rfl
            exact ((suite_sim (some i) (evSs_sim hd _ _ S' s1)).rebase ⟨Nat.le_refl _, fun l h => .inl rfl, a, b⟩).rebase g
          · trivial
      · exact ⟨e', S', rfl, s', g⟩
theorem evSs_sim : ∀ (t : ISs) (e2 : E2) (e : Env) (S : Store), Sim e2 e S → RelY np e2 e S (evSs2 rn2 w np t e2) (evSs rn w t e S)
  | .nil, e2, e, S, s => by
    simp only [evSs2, evSs]
    exact ⟨_, _, rfl, s, .refl⟩
  | .cons t r, e2, e, S, s => by
    simp only [evSs2, evSs]
    have h1 := evS_sim t e2 e S s
    cases hq : evS2 rn2 w np t e2 with
    | no => trivial
    | nx e2'' => rw [hq] at h1; obtain ⟨e', S'', q, s'', g⟩ := h1; rw [q]; exact (evSs_sim r e2'' e' S'' s'').rebase g
    | ct e2'' => rw [hq] at h1; obtain ⟨e', S'', q, s'', g⟩ := h1; rw [q]; exact ⟨e', S'', rfl, s'', g⟩
    | bk e2'' => rw [hq] at h1; obtain ⟨e', S'', q, s'', g⟩ := h1; rw [q]; exact ⟨e', S'', rfl, s'', g⟩
    | ex c fs e2'' => rw [hq] at h1; obtain ⟨e', S'', q, s'', g⟩ := h1; rw [q]; exact ⟨e', S'', rfl, s'', g⟩
    | ret d2 e2'' => rw [hq] at h1; obtain ⟨d, e', S'', q, s'', g, rd⟩ := h1; rw [q]; exact ⟨d, e', S'', rfl, s'', g, rd⟩
end
end
/-! ### defs -/
def Dist : List V → List D → Prop
  | .m _ :: r, d :: s => (∃ l, d = .ref l ∧ l ∉ locs r s) ∧ Dist r s
  | _ :: r, _ :: s => Dist r s
  | [], [] => True
  | _, _ => False
theorem ArgR.dist {S : Store} : ∀ {vs : List V} {ds : List D}, ArgR S vs ds → Dist vs ds
  | [], [], h => trivial
  | .p x :: r, d :: s, ⟨h1, h2⟩ => h2.dist
  | .x c fs :: r, d :: s, ⟨h1, h2⟩ => h2.dist
  | .m o :: r, d :: s, ⟨⟨l, h1, _, _, h3⟩, h2⟩ => ⟨⟨l, h1, h3⟩, h2.dist⟩
  | [], _ :: _, h => h.elim
  | .p _ :: _, [], h => h.elim
  | .x _ _ :: _, [], h => h.elim
  | .m _ :: _, [], h => h.elim
theorem ArgR.len {S : Store} : ∀ {vs : List V} {ds : List D}, ArgR S vs ds → ds.length = vs.length
  | [], [], h => rfl
  | .p x :: r, d :: s, ⟨h1, h2⟩ => by simp [h2.len]
  | .x c fs :: r, d :: s, ⟨h1, h2⟩ => by simp [h2.len]
  | .m o :: r, d :: s, ⟨h1, h2⟩ => by simp [h2.len]
  | [], _ :: _, h => h.elim
  | .p _ :: _, [], h => h.elim
  | .x _ _ :: _, [], h => h.elim
  | .m _ :: _, [], h => h.elim
theorem locs_mem {l : Nat} : ∀ {vs : List V} {ds : List D}, Dist vs ds → l ∈ locs vs ds → ∃ (i : Nat) (o : O), vs[i]? = some (V.m o) ∧ ds[i]? = some (D.ref l)
  | [], [], _, h => by simp [locs] at h
  | [], _ :: _, h, _ => h.elim
  | .p _ :: _, [], h, _ => h.elim
  | .x _ _ :: _, [], h, _ => h.elim
  | .m _ :: _, [], h, _ => h.elim
  | .p x :: r, d :: s, hd, h => by
    obtain ⟨i, o, a, b⟩ := locs_mem (vs := r) (ds := s) hd (by cases d <;> simpa [locs] using h)
    exact ⟨i + 1, o, a, b⟩
  | .x c fs :: r, d :: s, hd, h => by
    obtain ⟨i, o, a, b⟩ := locs_mem (vs := r) (ds := s) hd (by cases d <;> simpa [locs] using h)
    exact ⟨i + 1, o, a, b⟩
  | .m o :: r, d :: s, ⟨⟨l', h1, h2⟩, hd⟩, h => by
    subst h1
    simp only [locs, List.mem_cons] at h
    rcases h with rfl | h
    · exact ⟨0, o, rfl, rfl⟩
    · obtain ⟨i, o, a, b⟩ := locs_mem hd h
      exact ⟨i + 1, o, a, b⟩
theorem mem_locs {l : Nat} {o : O} : ∀ {vs : List V} {ds : List D} {i : Nat}, vs[i]? = some (V.m o) → ds[i]? = some (D.ref l) → l ∈ locs vs ds
  | [], ds, i, h, _ => by simp at h
  | _ :: _, [], i, _, h => by simp at h
  | v :: r, d :: s, 0, h1, h2 => by
    simp only [List.getElem?_cons_zero, Option.some.injEq] at h1 h2
    subst h1 h2
    simp [locs]
  | v :: r, d :: s, i + 1, h1, h2 => by
    have := mem_locs (vs := r) (ds := s) (by simpa using h1) (by simpa using h2)
    cases v <;> cases d <;> simp [locs, this]
theorem loc_inj {l : Nat} {o o' : O} : ∀ {vs : List V} {ds : List D} {i j : Nat}, Dist vs ds → vs[i]? = some (V.m o) → vs[j]? = some (V.m o') → ds[i]? = some (D.ref l) → ds[j]? = some (D.ref l) → i = j
  | [], ds, i, j, _, h, _, _, _ => by simp at h
  | _ :: _, [], i, j, _, _, _, h, _ => by simp at h
  | v :: r, d :: s, 0, 0, _, _, _, _, _ => rfl
  | v :: r, d :: s, 0, j + 1, hd, h1, h2, h3, h4 => by
    simp only [List.getElem?_cons_zero, Option.some.injEq] at h1 h3
    subst h1 h3
    obtain ⟨⟨l', q, hn⟩, _⟩ := hd
    cases q
    exact absurd (mem_locs (by simpa using h2) (by simpa using h4)) hn
  | v :: r, d :: s, i + 1, 0, hd, h1, h2, h3, h4 => by
    simp only [List.getElem?_cons_zero, Option.some.injEq] at h2 h4
    subst h2 h4
    obtain ⟨⟨l', q, hn⟩, _⟩ := hd
    cases q
    exact absurd (mem_locs (by simpa using h1) (by simpa using h3)) hn
  | v :: r, d :: s, i + 1, j + 1, hd, h1, h2, h3, h4 => by
    have hd' : Dist r s := by cases v <;> first | exact hd | exact hd.2
    exact congrArg (· + 1) (loc_inj (o := o) (o' := o') hd' (by simpa using h1) (by simpa using h2) (by simpa using h3) (by simpa using h4))
theorem ArgR.get {S : Store} : ∀ {vs : List V} {ds : List D} {i : Nat} {v : V}, ArgR S vs ds → vs[i]? = some v → ∃ d, ds[i]? = some d ∧ (∀ x, v = .p x → d = .p x) ∧ (∀ c fs, v = .x c fs → d = .exc c fs) ∧ (∀ o, v = .m o → ∃ l, d = .ref l ∧ S[l]? = some o ∧ flatB o = true)
  | [], _, i, v, _, h => by simp at h
  | .p _ :: _, [], i, v, h, _ => h.elim
  | .x _ _ :: _, [], i, v, h, _ => h.elim
  | .m _ :: _, [], i, v, h, _ => h.elim
  | .p x :: r, d :: s, 0, v, ⟨h1, h2⟩, h => by
    simp only [List.getElem?_cons_zero, Option.some.injEq] at h
    subst h
    exact ⟨d, rfl, fun x q => by cases q; exact h1, fun c fs q => (by cases q), fun o q => (by cases q)⟩
  | .x c fs :: r, d :: s, 0, v, ⟨h1, h2⟩, h => by
    simp only [List.getElem?_cons_zero, Option.some.injEq] at h
    subst h
    exact ⟨d, rfl, fun x q => (by cases q), fun c fs q => by cases q; exact h1, fun o q => (by cases q)⟩
  | .m o :: r, d :: s, 0, v, ⟨⟨l, h1, h3, h4, _⟩, h2⟩, h => by
    simp only [List.getElem?_cons_zero, Option.some.injEq] at h
    subst h
    exact ⟨d, rfl, fun x q => (by cases q), fun c fs q => (by cases q), fun o q => by cases q; exact ⟨l, h1, h3, h4⟩⟩
  | .p x :: r, d :: s, i + 1, v, ⟨h1, h2⟩, h => h2.get (by simpa using h)
  | .x c fs :: r, d :: s, i + 1, v, ⟨h1, h2⟩, h => h2.get (by simpa using h)
  | .m o :: r, d :: s, i + 1, v, ⟨h1, h2⟩, h => h2.get (by simpa using h)
theorem entry {vs : List V} {nv i : Nat} {v : V} (h : (vs.map some ++ List.replicate nv none)[i]? = some (some v)) : vs[i]? = some v := by
  by_cases hi : i < vs.length
  · rw [List.getElem?_append_left (by simpa using hi)] at h
    simpa using h
  · rw [List.getElem?_append_right (by simpa using hi), List.getElem?_replicate] at h
    split at h <;> cases h
theorem entry_of {α : Type} {vs : List α} {nv i : Nat} {v : α} (h : vs[i]? = some v) : (vs.map some ++ List.replicate nv none)[i]? = some (some v) := by
  have hi := (List.getElem?_eq_some_iff.mp h).1
  rw [List.getElem?_append_left (by simpa using hi)]
  simpa using h
theorem entry_inv {α : Type} {vs : List α} {nv i : Nat} {v : α} (h : (vs.map some ++ List.replicate nv none)[i]? = some (some v)) : vs[i]? = some v := by
  by_cases hi : i < vs.length
  · rw [List.getElem?_append_left (by simpa using hi)] at h
    simpa using h
  · rw [List.getElem?_append_right (by simpa using hi), List.getElem?_replicate] at h
    split at h <;> cases h
theorem entry_sim {S : Store} {vs : List V} {ds : List D} (nv : Nat) (h : ArgR S vs ds) : Sim (vs.map some ++ List.replicate nv none) (ds.map some ++ List.replicate nv none) S := by
  refine ⟨by simp [h.len], fun i x q => ?_, fun i c fs q => ?_, fun i o q => ?_, fun i j l a b => ?_⟩
  · obtain ⟨d, h1, h2, _⟩ := h.get (entry q)
    rw [entry_of h1, h2 x rfl]
  · obtain ⟨d, h1, _, h2, _⟩ := h.get (entry q)
    rw [entry_of h1, h2 c fs rfl]
  · obtain ⟨d, h1, _, _, h2⟩ := h.get (entry q)
    obtain ⟨l, rfl, h3, h4⟩ := h2 o rfl
    exact ⟨l, entry_of h1, h3, h4⟩
  · obtain ⟨o, q1⟩ := isM_iff.mp a.a
    obtain ⟨o', q2⟩ := isM_iff.mp b.a
    exact loc_inj h.dist (entry q1) (entry q2) (entry_inv a.b) (entry_inv b.b)
theorem okT_of : ∀ {S S' : Store}, S.length ≤ S'.length → (∀ l, l < S.length → S'[l]? = S[l]? ∨ ∃ o, S'[l]? = some o ∧ ∀ kvs, o ≠ O.dir kvs) → okT S S' = true
  | [], S', _, _ => by simp [okT]
  | a :: r, [], h, _ => by simp at h
  | a :: r, b :: s, h, q => by
    simp only [okT, Bool.and_eq_true]
    refine ⟨?_, okT_of (by simpa using h) fun l hl => by simpa using q (l + 1) (by simpa using hl)⟩
    have := q 0 (by simp)
    simp only [List.getElem?_cons_zero, Option.some.injEq] at this
    rcases this with rfl | ⟨o, rfl, ho⟩
    · cases b <;> simp
    · cases b <;> simp
      exact absurd rfl (ho _)
theorem updS_out {l : Nat} : ∀ {ls : List Nat} {os : List O} {S : Store}, l ∉ ls → (updS S ls os)[l]? = S[l]?
  | [], os, S, h => by cases os <;> rfl
  | _ :: _, [], S, h => rfl
  | k :: ls, o :: os, S, h => by
    simp only [List.mem_cons, not_or] at h
    rw [updS, updS_out h.2, List.getElem?_set_ne (fun z => h.1 z.symm)]
theorem outs_upd {l : Nat} {o : O} : ∀ {vs : List V} {ds : List D} {e2 : E2} {os : List O} {S : Store} {i : Nat}, Dist vs ds → outs vs e2 = some os → vs[i]? = some (V.m o) → ds[i]? = some (D.ref l) → l < S.length → ∃ o', e2[i]? = some (some (V.m o')) ∧ (updS S (locs vs ds) os)[l]? = some o'
  | [], ds, e2, os, S, i, _, _, h, _, _ => by simp at h
  | _ :: _, [], e2, os, S, i, _, _, _, h, _ => by simp at h
  | .m o0 :: r, d :: s, e2, os, S, i, ⟨⟨l0, hd, hn⟩, hr⟩, h, h1, h2, hl => by
    subst hd
    match e2, h with
    | some (.m o1) :: e, h =>
      simp only [outs, Option.map_eq_some_iff] at h
      obtain ⟨os', h', rfl⟩ := h
      simp only [locs, updS]
      cases i with
      | zero =>
        simp only [List.getElem?_cons_zero, Option.some.injEq] at h2
        cases h2
        exact ⟨o1, rfl, by rw [updS_out hn, List.getElem?_set_self hl]⟩
      | succ i =>
        obtain ⟨o', a, b⟩ := outs_upd (S := S.set l0 o1) hr h' (by simpa using h1) (by simpa using h2) (by simpa using hl)
        exact ⟨o', by simpa using a, b⟩
  | .p x :: r, d :: s, e2, os, S, i, hd, h, h1, h2, hl => by
    match e2, h with
    | a :: e, h =>
      simp only [outs] at h
      cases i with
      | zero => simp at h1
      | succ i =>
        obtain ⟨o', a, b⟩ := outs_upd (vs := r) (ds := s) (S := S) hd h (by simpa using h1) (by simpa using h2) hl
        refine ⟨o', by simpa using a, ?_⟩
        cases d <;> simpa [locs] using b
  | .x c fs :: r, d :: s, e2, os, S, i, hd, h, h1, h2, hl => by
    match e2, h with
    | a :: e, h =>
      simp only [outs] at h
      cases i with
      | zero => simp at h1
      | succ i =>
        obtain ⟨o', a, b⟩ := outs_upd (vs := r) (ds := s) (S := S) hd h (by simpa using h1) (by simpa using h2) hl
        refine ⟨o', by simpa using a, ?_⟩
        cases d <;> simpa [locs] using b
theorem outs_mem {o : O} : ∀ {vs : List V} {e2 : E2} {os : List O}, outs vs e2 = some os → o ∈ os → ∃ i : Nat, e2[i]? = some (some (V.m o))
  | [], e2, os, h, hm => by
    simp only [outs, Option.some.injEq] at h
    subst h
    simp at hm
  | .m o0 :: r, e2, os, h, hm => by
    match e2, h with
    | some (.m o1) :: e, h =>
      simp only [outs, Option.map_eq_some_iff] at h
      obtain ⟨os', h', rfl⟩ := h
      simp only [List.mem_cons] at hm
      rcases hm with rfl | hm
      · exact ⟨0, rfl⟩
      · obtain ⟨i, q⟩ := outs_mem h' hm
        exact ⟨i + 1, by simpa using q⟩
  | .p x :: r, e2, os, h, hm => by
    match e2, h with
    | a :: e, h =>
      simp only [outs] at h
      obtain ⟨i, q⟩ := outs_mem h hm
      exact ⟨i + 1, by simpa using q⟩
  | .x c fs :: r, e2, os, h, hm => by
    match e2, h with
    | a :: e, h =>
      simp only [outs] at h
      obtain ⟨i, q⟩ := outs_mem h hm
      exact ⟨i + 1, by simpa using q⟩
/-- a def's end: the caller's part of the store -/
theorem fin_store {S S' : Store} {vs : List V} {ds : List D} {nv : Nat} {e2' : E2} {e' : Env} {os : List O} (ha : ArgR S vs ds) (s' : Sim e2' e' S') (g : Frm vs.length (vs.map some ++ List.replicate nv none) (ds.map some ++ List.replicate nv none) S e2' e' S') (ho : outs vs e2' = some os) :
    okT S S' = true ∧ S'.take S.length = updS S (locs vs ds) os ∧ ∀ o ∈ os, flatB o = true := by
  refine ⟨okT_of g.len fun l hl => ?_, ?_, fun o hm => ?_⟩
  · rcases g.old l hl with q | ⟨_, q⟩
    · exact .inl q
    · exact .inr q
  · apply List.ext_getElem?
    intro l
    by_cases hl : l < S.length
    · rw [List.getElem?_take_of_lt hl]
      by_cases hm : l ∈ locs vs ds
      · obtain ⟨i, o, q1, q2⟩ := locs_mem ha.dist hm
        obtain ⟨o', h1, h2⟩ := outs_upd (S := S) ha.dist ho q1 q2 hl
        rw [h2]
        obtain ⟨l', z1, z2, z3⟩ := s'.m i o' h1
        have hi := (List.getElem?_eq_some_iff.mp q1).1
        rw [(g.par i hi (by rw [entry_of q1]; rfl)).2, entry_of q2] at z1
        cases z1
        exact z2
      · rw [updS_out hm]
        refine g.same hl ?_
        rintro ⟨i, a, b⟩
        obtain ⟨o, a⟩ := isM_iff.mp a
        exact hm (mem_locs (entry a) (entry_inv b))
    · rw [List.getElem?_eq_none (by simp; omega), List.getElem?_eq_none (by simp; omega)]
  · obtain ⟨i, q⟩ := outs_mem ho hm
    obtain ⟨_, _, _, h⟩ := s'.m i o q
    exact h
theorem run_sim (p : Prog) : ∀ k, RnSim (run2 p k) (run p k)
  | 0 => fun f vs ds S ha => trivial
  | k + 1 => fun f vs ds S ha => by
    simp only [run2, run]
    cases hp : p f with
    | none => trivial
    | some fn =>
      simp only
      split
      · rename_i hn
        rw [if_pos (ha.len.trans hn)]
        have h := evSs_sim (w := turnsMost) (np := fn.np) (run_sim p k) fn.body _ _ S (entry_sim fn.nv ha)
        cases hq : evSs2 (run2 p k) turnsMost fn.np fn.body (vs.map some ++ List.replicate fn.nv none) with
        | no => trivial
        | bk e2' => trivial
        | ct e2' => trivial
        | nx e2' =>
          rw [hq] at h
          obtain ⟨e', S', q, s', g⟩ := h
          rw [q]
          simp only [fin2, fin]
          cases ho : outs vs e2' with
          | none => trivial
          | some os =>
            obtain ⟨h1, h2, h3⟩ := fin_store ha s' (hn ▸ g) ho
            rw [h1, h2]
            exact ⟨h3, _, _, rfl, rfl, rfl⟩
        | ex c fs e2' =>
          rw [hq] at h
          obtain ⟨e', S', q, s', g⟩ := h
          rw [q]
          simp only [fin2, fin]
          cases ho : outs vs e2' with
          | none => trivial
          | some os =>
            obtain ⟨h1, h2, h3⟩ := fin_store ha s' (hn ▸ g) ho
            rw [h1, h2]
            exact ⟨h3, rfl⟩
        | ret d2 e2' =>
          rw [hq] at h
          obtain ⟨d, e', S', q, s', g, rd⟩ := h
          rw [q]
          cases d2 with
          | x c fs => trivial
          | p x =>
            cases rd
            simp only [fin2, fin]
            cases ho : outs vs e2' with
            | none => trivial
            | some os =>
              obtain ⟨h1, h2, h3⟩ := fin_store ha s' (hn ▸ g) ho
              rw [h1, h2]
              exact ⟨h3, _, _, rfl, rfl, rfl⟩
          | fr o =>
            obtain ⟨l, rfl, hl, hg, hf⟩ := rd
            simp only [fin2, fin, hf, if_true]
            cases ho : outs vs e2' with
            | none => trivial
            | some os =>
              obtain ⟨h1, h2, h3⟩ := fin_store ha s' (hn ▸ g) ho
              rw [h1, if_pos rfl, if_neg (by omega), h2, hg]
              cases o with
              | lst xs => exact ⟨h3, _, _, rfl, by simp, rfl, rfl⟩
              | dic xs => exact ⟨h3, _, _, rfl, by simp, rfl, rfl⟩
              | _ => cases hf
          | ref i =>
            obtain ⟨l, rfl, hi⟩ := rd
            simp only [fin2]
            match he : e2'[i]? with
            | none => trivial
            | some none => trivial
            | some (some (.p x)) => trivial
            | some (some (.x c fs)) => trivial
            | some (some (.m o)) =>
              simp only [finR]
              split
              · rename_i hc
                obtain ⟨l', z1, z2, z3⟩ := s'.m i o he
                rw [hi] at z1
                cases z1
                cases ho : outs vs e2' with
                | none => trivial
                | some os =>
                  obtain ⟨h1, h2, h3⟩ := fin_store ha s' (hn ▸ g) ho
                  have hl : S.length ≤ l := by
                    rcases g.own l ⟨i, by rw [he]; rfl, hi⟩ with ⟨j, q1, q2⟩ | q
                    · obtain ⟨o', q1⟩ := isM_iff.mp q1
                      have hj := (List.getElem?_eq_some_iff.mp (entry q1)).1
                      obtain ⟨a, b⟩ := g.par j (by omega) (by rw [q1]; rfl)
                      have := s'.inj i j l ⟨by rw [he]; rfl, hi⟩ ⟨a, by rw [b]; exact q2⟩
                      omega
                    · exact q
                  simp only [fin]
                  rw [h1, if_pos rfl, if_neg (by omega), h2, z2]
                  cases o with
                  | lst xs => exact ⟨h3, _, _, rfl, by simp, rfl, rfl⟩
                  | dic xs => exact ⟨h3, _, _, rfl, by simp, rfl, rfl⟩
                  | _ => cases z3
              · trivial
      · trivial
/-- the law's run -/
theorem run_of {p : Prog} {k f : Nat} {x y : P} (h : run2 p k f [.p x] = .ok (.p y) []) : ∃ S, run p k f [.p x] [] = .ok (.p y) S := by
  have := run_sim p k f [.p x] [.p x] [] ⟨rfl, trivial⟩
  rw [h] at this
  obtain ⟨_, d, S', q, rfl, _⟩ := this
  exact ⟨S', q⟩
end DL

/-! DY: the evaluator by values: its equations as simp rules, loops -/
namespace DL
section
variable (rn : Rn2) (w np : Nat)
@[simp] theorem y_c (x : P) (e : E2) : evE2 rn np (.c x) e = .ok (.p x) e := by simp only [evE2]
@[simp] theorem y_v (i : Nat) (e : E2) : evE2 rn np (.v i) e = slotK e i e[i]? := by simp only [evE2]
@[simp] theorem y_op (f : List P → Option P) (es : IEs) (e : E2) : evE2 rn np (.op f es) e = opY f (evEs2 rn np es e) := by simp only [evE2]
@[simp] theorem y_pk (f : List P → Option P) (es : IEs) (e : E2) : evE2 rn np (.pk f es) e = pkY f (evEs2 rn np es e) := by simp only [evE2]
@[simp] theorem y_call (f : Nat) (es : IEs) (e : E2) : evE2 rn np (.call f es) e = callK (rn f) (evEs2 rn np es e) := by simp only [evE2]
@[simp] theorem y_and (a b : IE) (e : E2) : evE2 rn np (.and_ a b) e = andK (evE2 rn np b) (evE2 rn np a e) := by simp only [evE2]
@[simp] theorem y_or (a b : IE) (e : E2) : evE2 rn np (.or_ a b) e = orK (evE2 rn np b) (evE2 rn np a e) := by simp only [evE2]
@[simp] theorem y_not (a : IE) (e : E2) : evE2 rn np (.not_ a) e = notK (evE2 rn np a e) := by simp only [evE2]
@[simp] theorem y_ite (t a b : IE) (e : E2) : evE2 rn np (.ite t a b) e = iteK (evE2 rn np a) (evE2 rn np b) (evE2 rn np t e) := by simp only [evE2]
@[simp] theorem y_chain (f g : P → P → Option Bool) (a b c : IE) (e : E2) : evE2 rn np (.chain f g a b c) e = chainK f g (evE2 rn np c) (consK (oneF (evE2 rn np b)) (evE2 rn np a e)) := by simp only [evE2]
@[simp] theorem y_comp (vs : List Nat) (tg : Tg) (f : List P → Option (List P)) (es : IEs) (cd elt : IE) (e : E2) : evE2 rn np (.comp vs tg f es cd elt) e = compK (cpItem2 np vs tg (evE2 rn np cd) (evE2 rn np elt)) f (evEs2 rn np es e) := by simp only [evE2]
@[simp] theorem y_isx (hits : Nat → Bool) (a : IE) (e : E2) : evE2 rn np (.isx hits a) e = isxK hits (evE2 rn np a e) := by simp only [evE2]
@[simp] theorem y_fld (g : Nat → Option Nat) (a : IE) (e : E2) : evE2 rn np (.fld g a) e = fldK g (evE2 rn np a e) := by simp only [evE2]
@[simp] theorem y_part (a : IE) (e : E2) : evE2 rn np (.part a) e = partK (evE2 rn np a e) := by simp only [evE2]
@[simp] theorem y_new (a : IE) (e : E2) : evE2 rn np (.new a) e = newK (evE2 rn np a e) := by simp only [evE2]
@[simp] theorem y_frz (a : IE) (e : E2) : evE2 rn np (.frz a) e = frzK np (evE2 rn np a e) := by simp only [evE2]
@[simp] theorem y_meth (T : P → Bool) (f : List P → Option P) (a : IE) (es : IEs) (e : E2) : evE2 rn np (.meth T f a es) e = methK T f (evEs2 rn np es) (evE2 rn np a e) := by simp only [evE2]
@[simp] theorem y_mut (T : P → Bool) (g : Mu) (a : IE) (es : IEs) (e : E2) : evE2 rn np (.mut T g a es) e = mutK2 T g (evEs2 rn np es) (evE2 rn np a e) := by simp only [evE2]
@[simp] theorem ys_nil (e : E2) : evEs2 rn np .nil e = .ok [] e := by simp only [evEs2]
@[simp] theorem ys_cons (a : IE) (r : IEs) (e : E2) : evEs2 rn np (.cons a r) e = consK (evEs2 rn np r) (evE2 rn np a e) := by simp only [evEs2]
@[simp] theorem z_asg (tg : Tg) (a : IE) (e : E2) : evS2 rn w np (.asg tg a) e = asgK np tg (evE2 rn np a e) := by simp only [evS2]
@[simp] theorem z_expr (a : IE) (e : E2) : evS2 rn w np (.expr a) e = exprK (evE2 rn np a e) := by simp only [evS2]
@[simp] theorem z_ret (a : IE) (e : E2) : evS2 rn w np (.ret a) e = retK (evE2 rn np a e) := by simp only [evS2]
@[simp] theorem z_iff (t : IE) (a b : ISs) (e : E2) : evS2 rn w np (.iff t a b) e = iffK (evSs2 rn w np a) (evSs2 rn w np b) (evE2 rn np t e) := by simp only [evS2]
@[simp] theorem z_for (tg : Tg) (f : List P → Option (List P)) (es : IEs) (b : ISs) (e : E2) : evS2 rn w np (.for_ tg f es b) e = forK2 np tg b f (evSs2 rn w np b) (evEs2 rn np es e) := by simp only [evS2]
@[simp] theorem z_whl (t : IE) (b : ISs) (e : E2) : evS2 rn w np (.whl t b) e = whlL2 (evE2 rn np t) (evSs2 rn w np b) w e := by simp only [evS2]
@[simp] theorem z_pass (e : E2) : evS2 rn w np .pass e = .nx e := by simp only [evS2]
@[simp] theorem z_brk (e : E2) : evS2 rn w np .brk e = .bk e := by simp only [evS2]
@[simp] theorem z_cnt (e : E2) : evS2 rn w np .cnt e = .ct e := by simp only [evS2]
@[simp] theorem z_sub (g : Mu) (a k v : IE) (e : E2) : evS2 rn w np (.sub g a k v) e = subK g (consK (twoF (evE2 rn np a) (evE2 rn np k)) (evE2 rn np v e)) := by simp only [evS2]
@[simp] theorem z_raise (c : Nat) (es : IEs) (e : E2) : evS2 rn w np (.raise c es) e = raiseK c (evEs2 rn np es e) := by simp only [evS2]
@[simp] theorem z_try (b : ISs) (hits : Nat → Bool) (slot : Option Nat) (h : ISs) (e : E2) : evS2 rn w np (.try_ b hits slot h) e = tryK np hits slot (evSs2 rn w np h) (evSs2 rn w np b e) := by simp only [evS2]
@[simp] theorem zs_nil (e : E2) : evSs2 rn w np .nil e = .nx e := by simp only [evSs2]
@[simp] theorem zs_cons (s : IS) (r : ISs) (e : E2) : evSs2 rn w np (.cons s r) e = seqK (evSs2 rn w np r) (evS2 rn w np s e) := by simp only [evSs2]
end
@[simp] theorem slotK_p (e : E2) (i : Nat) (x : P) : slotK e i (some (some (.p x))) = .ok (.p x) e := rfl
@[simp] theorem slotK_m (e : E2) (i : Nat) (o : O) : slotK e i (some (some (.m o))) = .ok (.ref i) e := rfl
@[simp] theorem slotK_x (e : E2) (i c : Nat) (fs : List P) : slotK e i (some (some (.x c fs))) = .ok (.x c fs) e := rfl
@[simp] theorem valK_m (o : O) : valK (some (some (.m o))) = oval o := rfl
@[simp] theorem val2_p (e : E2) (x : P) : val2 e (.p x) = some x := rfl
@[simp] theorem val2_ref (e : E2) (i : Nat) : val2 e (.ref i) = valK e[i]? := rfl
@[simp] theorem vals2_nil (e : E2) : vals2 e [] = some [] := rfl
@[simp] theorem vals2_p (e : E2) (x : P) (r : List D2) : vals2 e (.p x :: r) = (vals2 e r).map (x :: ·) := by
  simp only [vals2, val2]
  cases vals2 e r <;> rfl
@[simp] theorem vals2_ref (e : E2) (i : Nat) (r : List D2) : vals2 e (.ref i :: r) = (valK e[i]?).bind fun x => (vals2 e r).map (x :: ·) := by
  simp only [vals2, val2]
  cases valK e[i]? with
  | none => rfl
  | some x => cases vals2 e r <;> rfl
@[simp] theorem pures2_nil : pures2 [] = some [] := rfl
@[simp] theorem pures2_p (x : P) (r : List D2) : pures2 (.p x :: r) = (pures2 r).map (x :: ·) := by
  simp only [pures2]
  cases pures2 r <;> rfl
@[simp] theorem liftK_some (e : E2) (y : P) : liftK e (some y) = .ok (.p y) e := rfl
@[simp] theorem opY_ok (f : List P → Option P) (ds : List D2) (e : E2) : opY f (.ok ds e) = liftK e ((vals2 e ds).bind f) := rfl
@[simp] theorem opY_ex (f : List P → Option P) (c : Nat) (fs : List P) (e : E2) : opY f (.ex c fs e) = .ex c fs e := rfl
@[simp] theorem pkY_ok (f : List P → Option P) (ds : List D2) (e : E2) : pkY f (.ok ds e) = liftK e ((pures2 ds).bind f) := rfl
@[simp] theorem pkY_ex (f : List P → Option P) (c : Nat) (fs : List P) (e : E2) : pkY f (.ex c fs e) = .ex c fs e := rfl
@[simp] theorem consK2_ok (d : D2) (ds : List D2) (e : E2) : consK2 d (.ok ds e) = .ok (d :: ds) e := rfl
@[simp] theorem consK2_ex (d : D2) (c : Nat) (fs : List P) (e : E2) : consK2 d (.ex c fs e) = .ex c fs e := rfl
@[simp] theorem consK_ok (k : E2 → R2 (List D2)) (d : D2) (e : E2) : consK k (.ok d e) = consK2 d (k e) := rfl
@[simp] theorem consK_ex (k : E2 → R2 (List D2)) (c : Nat) (fs : List P) (e : E2) : consK k (.ex c fs e) = .ex c fs e := rfl
@[simp] theorem oneF_e (k : E2 → R2 D2) (e : E2) : oneF k e = consK (fun e => .ok [] e) (k e) := rfl
@[simp] theorem twoF_e (k j : E2 → R2 D2) (e : E2) : twoF k j e = consK (oneF j) (k e) := rfl
@[simp] theorem argV_nil (e : E2) : argV e [] = some [] := rfl
@[simp] theorem argV_p (e : E2) (x : P) (r : List D2) : argV e (.p x :: r) = (argV e r).map (.p x :: ·) := rfl
@[simp] theorem argV_x (e : E2) (c : Nat) (fs : List P) (r : List D2) : argV e (.x c fs :: r) = (argV e r).map (.x c fs :: ·) := rfl
@[simp] theorem argV_fr (e : E2) (o : O) (r : List D2) : argV e (.fr o :: r) = (argV e r).map (.m o :: ·) := rfl
/-- the object at a slot, as an argument -/
def argM (o : Option (Option V)) (r : Option (List V)) : Option (List V) := match o with
  | some (some (.m o)) => r.map (.m o :: ·)
  | _ => none
@[simp] theorem argM_m (o : O) (r : Option (List V)) : argM (some (some (.m o))) r = r.map (.m o :: ·) := rfl
@[simp] theorem argV_ref (e : E2) (i : Nat) (r : List D2) : argV e (.ref i :: r) = argM e[i]? (argV e r) := rfl
@[simp] theorem refsOf_nil : refsOf [] = [] := rfl
@[simp] theorem refsOf_p (x : P) (r : List D2) : refsOf (.p x :: r) = refsOf r := rfl
@[simp] theorem refsOf_x (c : Nat) (fs : List P) (r : List D2) : refsOf (.x c fs :: r) = refsOf r := rfl
@[simp] theorem refsOf_fr (o : O) (r : List D2) : refsOf (.fr o :: r) = refsOf r := rfl
@[simp] theorem refsOf_ref (i : Nat) (r : List D2) : refsOf (.ref i :: r) = i :: refsOf r := rfl
@[simp] theorem wbE_nil (e : E2) : wbE [] [] e = some e := rfl
@[simp] theorem wbE_p (x : P) (r : List D2) (os : List O) (e : E2) : wbE (.p x :: r) os e = wbE r os e := by cases os <;> rfl
@[simp] theorem wbE_x (c : Nat) (fs : List P) (r : List D2) (os : List O) (e : E2) : wbE (.x c fs :: r) os e = wbE r os e := by cases os <;> rfl
@[simp] theorem wbE_fr (o : O) (r : List D2) (o' : O) (os : List O) (e : E2) : wbE (.fr o :: r) (o' :: os) e = wbE r os e := rfl
@[simp] theorem wbE_ref (i : Nat) (r : List D2) (o : O) (os : List O) (e : E2) : wbE (.ref i :: r) (o :: os) e = wbE r os (e.set i (some (.m o))) := rfl
@[simp] theorem outK_ok (d : D2) (x : Option (Nat × List P)) (e : E2) : outK (some d) x (some e) = .ok d e := rfl
@[simp] theorem outK_ex (c : Nat) (fs : List P) (e : E2) : outK none (some (c, fs)) (some e) = .ex c fs e := rfl
@[simp] theorem toD_p (x : P) : toD (.p x) = some (.p x) := rfl
@[simp] theorem toD_m (o : O) : toD (.m o) = some (.fr o) := rfl
@[simp] theorem endK_ok (ds : List D2) (e : E2) (v : V) (os : List O) : endK ds e (.ok v os) = outK (toD v) none (wbE ds os e) := rfl
@[simp] theorem endK_ex (ds : List D2) (e : E2) (c : Nat) (fs : List P) (os : List O) : endK ds e (.ex c fs os) = outK none (some (c, fs)) (wbE ds os e) := rfl
@[simp] theorem runK_some (rn : List V → Q2) (ds : List D2) (e : E2) (vs : List V) : runK rn ds e (some vs) = endK ds e (rn vs) := rfl
@[simp] theorem callK_ok (rn : List V → Q2) (ds : List D2) (e : E2) : callK rn (.ok ds e) = if (refsOf ds).Nodup then runK rn ds e (argV e ds) else .no := rfl
@[simp] theorem callK_ex (rn : List V → Q2) (c : Nat) (fs : List P) (e : E2) : callK rn (.ex c fs e) = .ex c fs e := rfl
@[simp ↓] theorem boolK_t {α : Type} (no t f : α) : boolK no t f (.p (.bl true)) = t := rfl
@[simp ↓] theorem boolK_f {α : Type} (no t f : α) : boolK no t f (.p (.bl false)) = f := rfl
@[simp] theorem boolK_b {α : Type} (no t f : α) (b : Bool) : boolK no t f (.p (.bl b)) = if b then t else f := by cases b <;> rfl
@[simp] theorem andK_ok (k : E2 → R2 D2) (d : D2) (e : E2) : andK k (.ok d e) = boolK .no (k e) (.ok (.p (.bl false)) e) d := rfl
@[simp] theorem andK_ex (k : E2 → R2 D2) (c : Nat) (fs : List P) (e : E2) : andK k (.ex c fs e) = .ex c fs e := rfl
@[simp] theorem orK_ok (k : E2 → R2 D2) (d : D2) (e : E2) : orK k (.ok d e) = boolK .no (.ok (.p (.bl true)) e) (k e) d := rfl
@[simp] theorem orK_ex (k : E2 → R2 D2) (c : Nat) (fs : List P) (e : E2) : orK k (.ex c fs e) = .ex c fs e := rfl
@[simp] theorem notK_b (b : Bool) (e : E2) : notK (.ok (.p (.bl b)) e) = .ok (.p (.bl !b)) e := by cases b <;> rfl
@[simp] theorem iteK_ok (k j : E2 → R2 D2) (d : D2) (e : E2) : iteK k j (.ok d e) = boolK .no (k e) (j e) d := rfl
@[simp] theorem iteK_ex (k j : E2 → R2 D2) (c : Nat) (fs : List P) (e : E2) : iteK k j (.ex c fs e) = .ex c fs e := rfl
@[simp] theorem chainE_ok (g : P → P → Option Bool) (y z : P) (e : E2) : chainE g y (.ok (.p z) e) = liftK e ((g y z).map .bl) := rfl
@[simp] theorem chainB_t (g : P → P → Option Bool) (k : E2 → R2 D2) (y : P) (e : E2) : chainB g k y e (some true) = chainE g y (k e) := rfl
@[simp] theorem chainB_f (g : P → P → Option Bool) (k : E2 → R2 D2) (y : P) (e : E2) : chainB g k y e (some false) = .ok (.p (.bl false)) e := rfl
@[simp] theorem chainK_ok (f g : P → P → Option Bool) (k : E2 → R2 D2) (x y : P) (e : E2) : chainK f g k (.ok [.p x, .p y] e) = chainB g k y e (f x y) := rfl
@[simp] theorem partK_int (i : Int) (e : E2) : partK (.ok (.p (.int i)) e) = .ok (.p (.int i)) e := rfl
@[simp] theorem newK_lst (xs : List P) (e : E2) : newK (.ok (.p (.lst xs)) e) = .ok (.fr (.lst xs)) e := rfl
@[simp] theorem newK_dic (ks vs : List P) (e : E2) : newK (.ok (.p (.dic ks vs)) e) = .ok (.fr (.dic (ks.zip vs))) e := rfl
@[simp] theorem newK_ex (c : Nat) (fs : List P) (e : E2) : newK (.ex c fs e) = .ex c fs e := rfl
@[simp] theorem frzS_lst (np i : Nat) (e : E2) (xs : List P) : frzS np i e (some (some (.m (.lst xs)))) = if np ≤ i then .ok (.p (.lst xs)) (e.set i none) else .no := rfl
@[simp] theorem frzS_dic (np i : Nat) (e : E2) (kvs : List (P × P)) : frzS np i e (some (some (.m (.dic kvs)))) = if np ≤ i then .ok (.p (.dic (kvs.map (·.1)) (kvs.map (·.2)))) (e.set i none) else .no := rfl
@[simp] theorem frzK_p (np : Nat) (x : P) (e : E2) : frzK np (.ok (.p x) e) = .ok (.p x) e := rfl
@[simp] theorem frzK_lst (np : Nat) (xs : List P) (e : E2) : frzK np (.ok (.fr (.lst xs)) e) = .ok (.p (.lst xs)) e := rfl
@[simp] theorem frzK_dic (np : Nat) (kvs : List (P × P)) (e : E2) : frzK np (.ok (.fr (.dic kvs)) e) = .ok (.p (.dic (kvs.map (·.1)) (kvs.map (·.2)))) e := rfl
@[simp] theorem frzK_ref (np i : Nat) (e : E2) : frzK np (.ok (.ref i) e) = frzS np i e e[i]? := rfl
@[simp] theorem frzK_ex (np : Nat) (c : Nat) (fs : List P) (e : E2) : frzK np (.ex c fs e) = .ex c fs e := rfl
@[simp] theorem methT_some (T : P → Bool) (r : R2 D2) (x : P) : methT T r (some x) = if T x then r else .no := rfl
@[simp] theorem methK_ok (T : P → Bool) (f : List P → Option P) (k : E2 → R2 (List D2)) (d : D2) (e : E2) : methK T f k (.ok d e) = methT T (opY f (consK2 d (k e))) (val2 e d) := rfl
@[simp] theorem mutF_some (i : Nat) (e : E2) (o : O) (y : P) : mutF i e (some (o, y)) = if flatB o then .ok (.p y) (e.set i (some (.m o))) else .no := rfl
@[simp] theorem mutV_m (g : Mu) (xs : List P) (o : O) : mutV g xs (some (some (.m o))) = g o xs := rfl
@[simp] theorem mutS_some (g : Mu) (i : Nat) (e : E2) (xs : List P) : mutS g i e (some xs) = mutF i e (mutV g xs e[i]?) := rfl
@[simp] theorem mutE_ok (g : Mu) (i : Nat) (ds : List D2) (e : E2) : mutE g i (.ok ds e) = mutS g i e (pures2 ds) := rfl
@[simp] theorem mutK2_ref (T : P → Bool) (g : Mu) (k : E2 → R2 (List D2)) (i : Nat) (e : E2) : mutK2 T g k (.ok (.ref i) e) = methT T (mutE g i (k e)) (valK e[i]?) := rfl
@[simp] theorem flatB_lst (xs : List P) : flatB (.lst xs) = true := rfl
@[simp] theorem flatB_dic (xs : List (P × P)) : flatB (.dic xs) = true := rfl
@[simp] theorem isM_p (x : P) : isM (some (some (.p x))) = false := rfl
@[simp] theorem isM_x (c : Nat) (fs : List P) : isM (some (some (.x c fs))) = false := rfl
@[simp] theorem isM_n : isM (some none) = false := rfl
@[simp] theorem isM_nn : isM none = false := rfl
@[simp] theorem isM_m (o : O) : isM (some (some (.m o))) = true := rfl
@[simp] theorem freeS_e (np : Nat) (e : E2) (i : Nat) : freeS np e i = (decide (np ≤ i) || !isM e[i]?) := rfl
@[simp] theorem setMany2_nil (np : Nat) (e : E2) : setMany2 np [] [] e = some e := rfl
@[simp] theorem setMany2_cons (np i : Nat) (is : List Nat) (x : P) (xs : List P) (e : E2) : setMany2 np (i :: is) (x :: xs) e = if freeS np e i then setMany2 np is xs (e.set i (some (.p x))) else none := rfl
@[simp] theorem asg2_p (np i : Nat) (x : P) (e : E2) : assignTg2 np (.one i) (.p x) e = if freeS np e i then some (e.set i (some (.p x))) else none := rfl
@[simp] theorem asg2_fr (np i : Nat) (o : O) (e : E2) : assignTg2 np (.one i) (.fr o) e = if freeS np e i then some (e.set i (some (.m o))) else none := rfl
@[simp] theorem asg2_x (np i c : Nat) (fs : List P) (e : E2) : assignTg2 np (.one i) (.x c fs) e = if freeS np e i then some (e.set i (some (.x c fs))) else none := rfl
@[simp] theorem asg2_many (np : Nat) (is : List Nat) (xs : List P) (e : E2) : assignTg2 np (.many is) (.p (.tup xs)) e = setMany2 np is xs e := rfl
@[simp] theorem wipe2_nil (e : E2) : wipe2 e [] = e := rfl
@[simp] theorem wipe2_cons (e : E2) (v : Nat) (vs : List Nat) : wipe2 e (v :: vs) = (wipe2 e vs).set v none := rfl
@[simp] theorem back2_nil (e0 e : E2) : back2 e0 e [] = e := rfl
@[simp] theorem back2_cons (e0 e : E2) (v : Nat) (vs : List Nat) : back2 e0 e (v :: vs) = (back2 e0 e vs).set v (e0[v]?.getD none) := rfl
@[simp] theorem tgIn_one (i : Nat) (vs : List Nat) : tgIn (.one i) vs = decide (i ∈ vs) := rfl
@[simp] theorem tgIn_many (is vs : List Nat) : tgIn (.many is) vs = is.all fun i => decide (i ∈ vs) := rfl
@[simp] theorem okVs_e (tg : Tg) (vs : List Nat) (e : E2) : okVs tg vs e = (tgIn tg vs && vs.all fun i => !isM e[i]?) := rfl
@[simp] theorem itmP2_p (y : P) (e : E2) : itmP2 (.ok (.p y) e) = .ok (some y) e := rfl
@[simp] theorem itmK2_ok (k : E2 → R2 D2) (d : D2) (e : E2) : itmK2 k (.ok d e) = boolK .no (itmP2 (k e)) (.ok none e) d := rfl
@[simp] theorem backK_ok (vs : List Nat) (e0 e : E2) (o : Option P) : backK vs e0 (.ok o e) = .ok o (back2 e0 e vs) := rfl
@[simp] theorem cpK_some (cd elt : E2 → R2 D2) (vs : List Nat) (e0 e : E2) : cpK cd elt vs e0 (some e) = backK vs e0 (itmK2 elt (cd e)) := rfl
theorem cpI (np : Nat) (vs : List Nat) (tg : Tg) (cd elt : E2 → R2 D2) (x : P) (e : E2) : cpItem2 np vs tg cd elt x e = if okVs tg vs e then cpK cd elt vs e (assignTg2 np tg (.p x) (wipe2 e vs)) else .no := rfl
@[simp] theorem lstK_ok (ys : List P) (e : E2) : lstK (.ok ys e) = .ok (.p (.lst ys)) e := rfl
def itemsB {β : Type} (no : β) (k : List P → β) : Option (List P) → β
  | some items => k items
  | none => no
@[simp] theorem itemsB_some {β : Type} (no : β) (k : List P → β) (items : List P) : itemsB no k (some items) = k items := rfl
@[simp] theorem itemsY_some {β : Type} (no : β) (f : List P → Option (List P)) (k : List P → List P → β) (xs : List P) : itemsY no f k (some xs) = itemsB no (k xs) (f xs) := by
  show (match f xs with | some items => k xs items | none => no) = _
  cases f xs <;> rfl
@[simp] theorem compK_ok (item : P → E2 → R2 (Option P)) (f : List P → Option (List P)) (ds : List D2) (e : E2) : compK item f (.ok ds e) = itemsY .no f (fun xs items => lstK (compL2 (chkD2 ds xs) item items e)) (vals2 e ds) := rfl
@[simp] theorem chk_p (x : P) (xs : List P) (e : E2) : chkD2 [.p x] xs e = decide ([x] = xs) := by simp [chkD2]
@[simp] theorem chk_pp (x y : P) (xs : List P) (e : E2) : chkD2 [.p x, .p y] xs e = decide ([x, y] = xs) := by simp [chkD2]
@[simp] theorem chk_ref (i : Nat) (xs : List P) (e : E2) : chkD2 [.ref i] xs e = decide (((valK e[i]?).map fun x => [x]) = some xs) := by
  simp only [chkD2, vals2_ref, vals2_nil]
  cases valK e[i]? <;> simp
@[simp] theorem seqK_nx (k : E2 → S2) (e : E2) : seqK k (.nx e) = k e := rfl
@[simp] theorem seqK_ret (k : E2 → S2) (d : D2) (e : E2) : seqK k (.ret d e) = .ret d e := rfl
@[simp] theorem seqK_bk (k : E2 → S2) (e : E2) : seqK k (.bk e) = .bk e := rfl
@[simp] theorem seqK_ct (k : E2 → S2) (e : E2) : seqK k (.ct e) = .ct e := rfl
@[simp] theorem seqK_ex (k : E2 → S2) (c : Nat) (fs : List P) (e : E2) : seqK k (.ex c fs e) = .ex c fs e := rfl
@[simp] theorem asgO_some (e : E2) : asgO (some e) = .nx e := rfl
@[simp] theorem asgK_ok (np : Nat) (tg : Tg) (d : D2) (e : E2) : asgK np tg (.ok d e) = asgO (assignTg2 np tg d e) := rfl
@[simp] theorem asgK_ex (np : Nat) (tg : Tg) (c : Nat) (fs : List P) (e : E2) : asgK np tg (.ex c fs e) = .ex c fs e := rfl
@[simp] theorem exprK_ok (d : D2) (e : E2) : exprK (.ok d e) = .nx e := rfl
@[simp] theorem exprK_ex (c : Nat) (fs : List P) (e : E2) : exprK (.ex c fs e) = .ex c fs e := rfl
@[simp] theorem retK_ok (d : D2) (e : E2) : retK (.ok d e) = .ret d e := rfl
@[simp] theorem retK_ex (c : Nat) (fs : List P) (e : E2) : retK (.ex c fs e) = .ex c fs e := rfl
@[simp] theorem iffK_ok (k j : E2 → S2) (d : D2) (e : E2) : iffK k j (.ok d e) = boolK .no (k e) (j e) d := rfl
@[simp] theorem iffK_ex (k j : E2 → S2) (c : Nat) (fs : List P) (e : E2) : iffK k j (.ex c fs e) = .ex c fs e := rfl
@[simp] theorem walkOk_nil (tg : Tg) (b : ISs) : walkOk tg b [] = true := rfl
@[simp] theorem walkOk_p (tg : Tg) (b : ISs) (x : P) (r : List D2) : walkOk tg b (.p x :: r) = walkOk tg b r := rfl
@[simp] theorem walkOk_ref (tg : Tg) (b : ISs) (i : Nat) (r : List D2) : walkOk tg b (.ref i :: r) = (tgFree i tg && nasgs i b && walkOk tg b r) := rfl
@[simp] theorem tgFree_one (i j : Nat) : tgFree i (.one j) = decide (j ≠ i) := rfl
@[simp] theorem tgFree_many (i : Nat) (js : List Nat) : tgFree i (.many js) = !decide (i ∈ js) := rfl
@[simp] theorem nasgs_nil (i : Nat) : nasgs i .nil = true := by simp only [nasgs]
@[simp] theorem nasgs_cons (i : Nat) (s : IS) (r : ISs) : nasgs i (.cons s r) = (nasg i s && nasgs i r) := by simp only [nasgs]
@[simp] theorem nasg_asg (i : Nat) (t : Tg) (a : IE) : nasg i (.asg t a) = tgFree i t := by cases t <;> simp only [nasg, tgFree]
@[simp] theorem nasg_iff (i : Nat) (t : IE) (a b : ISs) : nasg i (.iff t a b) = (nasgs i a && nasgs i b) := by simp only [nasg]
@[simp] theorem nasg_for (i : Nat) (t : Tg) (f : List P → Option (List P)) (es : IEs) (b : ISs) : nasg i (.for_ t f es b) = (tgFree i t && nasgs i b) := by cases t <;> simp only [nasg, tgFree]
@[simp] theorem nasg_whl (i : Nat) (t : IE) (b : ISs) : nasg i (.whl t b) = nasgs i b := by simp only [nasg]
@[simp] theorem nasg_expr (i : Nat) (a : IE) : nasg i (.expr a) = true := by simp only [nasg]
@[simp] theorem nasg_ret (i : Nat) (a : IE) : nasg i (.ret a) = true := by simp only [nasg]
@[simp] theorem nasg_pass (i : Nat) : nasg i .pass = true := by simp only [nasg]
@[simp] theorem nasg_brk (i : Nat) : nasg i .brk = true := by simp only [nasg]
@[simp] theorem nasg_cnt (i : Nat) : nasg i .cnt = true := by simp only [nasg]
@[simp] theorem nasg_sub (i : Nat) (g : Mu) (a k v : IE) : nasg i (.sub g a k v) = true := by simp only [nasg]
@[simp] theorem nasg_raise (i c : Nat) (es : IEs) : nasg i (.raise c es) = true := by simp only [nasg]
@[simp] theorem forA_some (f : E2 → S2) (e : E2) : forA f (some e) = f e := rfl
theorem foI (np : Nat) (tg : Tg) (f : E2 → S2) (x : P) (e : E2) : forItem2 np tg f x e = forA f (assignTg2 np tg (.p x) e) := rfl
@[simp] theorem forK2_ok (np : Nat) (tg : Tg) (b : ISs) (f : List P → Option (List P)) (k : E2 → S2) (ds : List D2) (e : E2) : forK2 np tg b f k (.ok ds e) = if walkOk tg b ds then itemsY .no f (fun xs items => forL2 (chkD2 ds xs) (forItem2 np tg k) items e) (vals2 e ds) else .no := rfl
@[simp] theorem forK2_ex (np : Nat) (tg : Tg) (b : ISs) (f : List P → Option (List P)) (k : E2 → S2) (c : Nat) (fs : List P) (e : E2) : forK2 np tg b f k (.ex c fs e) = .ex c fs e := rfl
@[simp] theorem subK_ok (g : Mu) (y x : P) (i : Nat) (e : E2) : subK g (.ok [.p y, .ref i, .p x] e) = exprK (mutS g i e (some [x, y])) := rfl
@[simp] theorem raiseS_some (c : Nat) (e : E2) (xs : List P) : raiseS c e (some xs) = .ex c xs.reverse e := rfl
@[simp] theorem raiseK_ok (c : Nat) (ds : List D2) (e : E2) : raiseK c (.ok ds e) = raiseS c e (pures2 ds) := rfl
@[simp] theorem tryK_nx (np : Nat) (hits : Nat → Bool) (slot : Option Nat) (h : E2 → S2) (e : E2) : tryK np hits slot h (.nx e) = .nx e := rfl
@[simp] theorem tryK_ret (np : Nat) (hits : Nat → Bool) (slot : Option Nat) (h : E2 → S2) (d : D2) (e : E2) : tryK np hits slot h (.ret d e) = .ret d e := rfl
@[simp] theorem tryK_ex (np : Nat) (hits : Nat → Bool) (slot : Option Nat) (h : E2 → S2) (c : Nat) (fs : List P) (e : E2) : tryK np hits slot h (.ex c fs e) = if hits c then catchK np slot h c fs e else .ex c fs e := rfl
@[simp] theorem catchK_n (np : Nat) (h : E2 → S2) (c : Nat) (fs : List P) (e : E2) : catchK np none h c fs e = suite2 np none (h e) := rfl
@[simp] theorem catchK_s (np i : Nat) (h : E2 → S2) (c : Nat) (fs : List P) (e : E2) : catchK np (some i) h c fs e = if freeS np e i then suite2 np (some i) (h (e.set i (some (.x c fs)))) else .no := rfl
@[simp] theorem clr2_none : clr2 none = none := rfl
@[simp] theorem clr2_p (x : P) : clr2 (some (.p x)) = some (.p x) := rfl
@[simp] theorem clr2_m (o : O) : clr2 (some (.m o)) = some (.m o) := rfl
@[simp] theorem clr2_x (c : Nat) (fs : List P) : clr2 (some (.x c fs)) = none := rfl
@[simp] theorem clearX2_nil : clearX2 [] = [] := rfl
@[simp] theorem clearX2_cons (a : Option V) (r : E2) : clearX2 (a :: r) = clr2 a :: clearX2 r := rfl
@[simp] theorem clrY_n (np : Nat) (k : E2 → S2) (e : E2) : clrY np k none e = k e := rfl
@[simp] theorem clrY_s (np : Nat) (k : E2 → S2) (i : Nat) (e : E2) : clrY np k (some i) e = if freeS np e i then k (e.set i none) else .no := rfl
@[simp] theorem suite2_nx (np : Nat) (slot : Option Nat) (e : E2) : suite2 np slot (.nx e) = clrY np .nx slot (clearX2 e) := rfl
@[simp] theorem suite2_p (np : Nat) (slot : Option Nat) (x : P) (e : E2) : suite2 np slot (.ret (.p x) e) = .ret (.p x) e := rfl
@[simp] theorem suite2_fr (np : Nat) (slot : Option Nat) (x : O) (e : E2) : suite2 np slot (.ret (.fr x) e) = .ret (.fr x) e := rfl
@[simp] theorem suite2_ref (np : Nat) (slot : Option Nat) (x : Nat) (e : E2) : suite2 np slot (.ret (.ref x) e) = .ret (.ref x) e := rfl
@[simp] theorem isxK_x (hits : Nat → Bool) (c : Nat) (fs : List P) (e : E2) : isxK hits (.ok (.x c fs) e) = .ok (.p (.bl (hits c))) e := rfl
@[simp] theorem fldK_x (g : Nat → Option Nat) (c : Nat) (fs : List P) (e : E2) : fldK g (.ok (.x c fs) e) = liftK e ((g c).bind fun k => fs[k]?) := rfl
@[simp] theorem outs_nil (e : E2) : outs [] e = some [] := by simp only [outs]
@[simp] theorem outs_m (o : O) (r : List V) (o' : O) (e : E2) : outs (.m o :: r) (some (.m o') :: e) = (outs r e).map (o' :: ·) := by simp only [outs]
@[simp] theorem outs_p (x : P) (r : List V) (a : Option V) (e : E2) : outs (.p x :: r) (a :: e) = outs r e := by simp only [outs]
@[simp] theorem outs_x (c : Nat) (fs : List P) (r : List V) (a : Option V) (e : E2) : outs (.x c fs :: r) (a :: e) = outs r e := by simp only [outs]
@[simp] theorem finV_some (v : V) (os : List O) : finV v (some os) = .ok v os := rfl
@[simp] theorem finX_some (c : Nat) (fs : List P) (os : List O) : finX c fs (some os) = .ex c fs os := rfl
@[simp] theorem finR_m (vs : List V) (i : Nat) (e : E2) (o : O) : finR vs i e (some (some (.m o))) = if vs.length ≤ i ∧ flatB o then finV (.m o) (outs vs e) else .no := rfl
@[simp] theorem fin2_nx (vs : List V) (e : E2) : fin2 vs (.nx e) = finV (.p .non) (outs vs e) := rfl
@[simp] theorem fin2_p (vs : List V) (x : P) (e : E2) : fin2 vs (.ret (.p x) e) = finV (.p x) (outs vs e) := rfl
@[simp] theorem fin2_fr (vs : List V) (o : O) (e : E2) : fin2 vs (.ret (.fr o) e) = if flatB o then finV (.m o) (outs vs e) else .no := rfl
@[simp] theorem fin2_ref (vs : List V) (i : Nat) (e : E2) : fin2 vs (.ret (.ref i) e) = finR vs i e e[i]? := rfl
@[simp] theorem fin2_ex (vs : List V) (c : Nat) (fs : List P) (e : E2) : fin2 vs (.ex c fs e) = finX c fs (outs vs e) := rfl
theorem run2_at {p : Prog} {f : Nat} {fn : Fn} (h : p f = some fn) {k : Nat} {vs : List V} (hl : vs.length = fn.np) : run2 p (k + 1) f vs = fin2 vs (evSs2 (run2 p k) turnsMost fn.np fn.body (vs.map some ++ List.replicate fn.nv none)) := by
  simp only [run2, h, if_pos hl]
/-! ### operations, at once where they have no bounds -/
@[simp] theorem add_ii (a b : Int) : addP [.int a, .int b] = some (.int (a + b)) := rfl
@[simp] theorem sub_ii (a b : Int) : subP [.int a, .int b] = some (.int (a - b)) := rfl
@[simp] theorem neg_i (a : Int) : negP [.int a] = some (.int (-a)) := rfl
@[simp] theorem iadd_ii (a b : Int) : iaddP [.int a, .int b] = some (.int (a + b)) := rfl
@[simp] theorem lt_ii (a b : Int) : ltP [.int a, .int b] = some (.bl (decide (a < b))) := rfl
@[simp] theorem le_ii (a b : Int) : leP [.int a, .int b] = some (.bl (decide (a ≤ b))) := rfl
@[simp] theorem gt_ii (a b : Int) : gtP [.int a, .int b] = some (.bl (decide (b < a))) := rfl
@[simp] theorem ge_ii (a b : Int) : geP [.int a, .int b] = some (.bl (decide (b ≤ a))) := rfl
@[simp] theorem max_ii (a b : Int) : max2P [.int a, .int b] = some (.int (max a b)) := by
  simp only [max2P]
  congr 2
  omega
@[simp] theorem min_ii (a b : Int) : min2P [.int a, .int b] = some (.int (min a b)) := by
  simp only [min2P]
  congr 2
  omega
@[simp] theorem eq_ii (a b : Int) : eqP [.int a, .int b] = some (.bl (decide (a = b))) := by simp [eqP, P.shp, P.eqv]
@[simp] theorem ne_ii (a b : Int) : neP [.int a, .int b] = some (.bl (!decide (a = b))) := by simp [neP, P.shp, P.eqv]
@[simp] theorem eq_ss (a b : List Nat) : eqP [.str a, .str b] = some (.bl (decide (a = b))) := by simp [eqP, P.shp, P.eqv]
@[simp] theorem ne_ss (a b : List Nat) : neP [.str a, .str b] = some (.bl (!decide (a = b))) := by simp [neP, P.shp, P.eqv]
@[simp] theorem eq_bb (a b : Bool) : eqP [.bl a, .bl b] = some (.bl (a == b)) := by simp [eqP, P.shp, P.eqv]
@[simp] theorem ne_bb (a b : Bool) : neP [.bl a, .bl b] = some (.bl (!(a == b))) := by simp [neP, P.shp, P.eqv]
@[simp] theorem len_l (xs : List P) : lenQ [.lst xs] = some (.int xs.length) := rfl
@[simp] theorem len_t (xs : List P) : lenQ [.tup xs] = some (.int xs.length) := rfl
@[simp] theorem len_c (xs : List P) : lenQ [.scr xs] = some (.int xs.length) := rfl
@[simp] theorem len_s (xs : List Nat) : lenQ [.str xs] = some (.int xs.length) := rfl
@[simp] theorem isi_int (T : String) (i : Int) : isiP T [.int i] = some (.bl (decide (T = "int"))) := rfl
@[simp] theorem isi_str (T : String) (i : List Nat) : isiP T [.str i] = some (.bl (decide (T = "str"))) := rfl
@[simp] theorem isi_tup (T : String) (i : List P) : isiP T [.tup i] = some (.bl (decide (T = "tuple"))) := rfl
@[simp] theorem isi_lst (T : String) (i : List P) : isiP T [.lst i] = some (.bl (decide (T = "list"))) := rfl
@[simp] theorem isi_dic (T : String) (a b : List P) : isiP T [.dic a b] = some (.bl (decide (T = "dict"))) := rfl
@[simp] theorem isi_non (T : String) : isiP T [.non] = some (.bl false) := rfl
@[simp] theorem isi_bl (T : String) (b : Bool) : isiP T [.bl b] = some (.bl (decide (T = "bool") || decide (T = "int"))) := rfl
@[simp] theorem items_l (xs : List P) : itemsP [.lst xs] = some xs := rfl
@[simp] theorem items_t (xs : List P) : itemsP [.tup xs] = some xs := rfl
@[simp] theorem items_s (xs : List Nat) : itemsP [.str xs] = some (xs.map fun c => .str [c]) := rfl
@[simp] theorem lstP_e (xs : List P) : lstP xs = some (.lst xs) := rfl
@[simp] theorem dnewP_e (xs : List P) : dnewP xs = some (.dic [] []) := rfl
@[simp] theorem isTy_str (T : String) (x : List Nat) : isTy T (.str x) = decide (T = "str") := rfl
@[simp] theorem isTy_lst (T : String) (x : List P) : isTy T (.lst x) = decide (T = "list") := rfl
@[simp] theorem isTy_dic (T : String) (x y : List P) : isTy T (.dic x y) = decide (T = "dict") := rfl
@[simp] theorem tuple_l (xs : List P) : tupleP [.lst xs] = some (.tup xs) := rfl
@[simp] theorem listQ_l (xs : List P) : listQ [.lst xs] = some (.lst xs) := rfl
@[simp] theorem listQ_t (xs : List P) : listQ [.tup xs] = some (.lst xs) := rfl
@[simp] theorem listQ_s (xs : List Nat) : listQ [.str xs] = some (.lst (xs.map fun c => .str [c])) := rfl
@[simp] theorem mod_ii {a b : Int} (h : 0 < b) : modP [.int a, .int b] = some (.int (a % b)) := if_pos h
@[simp] theorem append_l {xs : List P} (y : P) (h : xs.length < 16777216) : appendM (.lst xs) [y] = some (.lst (xs ++ [y]), .non) := append_at y h
@[simp] theorem tup_np {xs : List P} (h : isPairs xs = false) : tupP xs = some (.tup xs) := tupP_np h
@[simp] theorem tupQ_e (xs : List P) : tupQ xs = some (.tup xs) := rfl
@[simp] theorem isN_non : isP [.non, .non] = some (.bl true) := rfl
@[simp] theorem isN_int (i : Int) : isP [.int i, .non] = some (.bl false) := rfl
@[simp] theorem isN_str (i : List Nat) : isP [.str i, .non] = some (.bl false) := rfl
@[simp] theorem isN_tup (i : List P) : isP [.tup i, .non] = some (.bl false) := rfl
@[simp] theorem isN_lst (i : List P) : isP [.lst i, .non] = some (.bl false) := rfl
@[simp] theorem notN_non : isNotP [.non, .non] = some (.bl false) := rfl
@[simp] theorem notN_int (i : Int) : isNotP [.int i, .non] = some (.bl true) := rfl
@[simp] theorem notN_str (i : List Nat) : isNotP [.str i, .non] = some (.bl true) := rfl
@[simp] theorem notN_tup (i : List P) : isNotP [.tup i, .non] = some (.bl true) := rfl
@[simp] theorem notN_lst (i : List P) : isNotP [.lst i, .non] = some (.bl true) := rfl
@[simp high] theorem add_nn (a b : Nat) : addP [.int (a : Int), .int (b : Int)] = some (.int ((a + b : Nat) : Int)) := by simp
@[simp high] theorem add_nl (a n : Nat) : addP [.int (a : Int), .int (no_index (OfNat.ofNat n))] = some (.int ((a + n : Nat) : Int)) := by simp; rfl
@[simp high] theorem add_ln (a n : Nat) : addP [.int (no_index (OfNat.ofNat n)), .int (a : Int)] = some (.int ((n + a : Nat) : Int)) := by simp; rfl
@[simp high] theorem iadd_nn (a b : Nat) : iaddP [.int (a : Int), .int (b : Int)] = some (.int ((a + b : Nat) : Int)) := by simp
@[simp high] theorem iadd_nl (a n : Nat) : iaddP [.int (a : Int), .int (no_index (OfNat.ofNat n))] = some (.int ((a + n : Nat) : Int)) := by simp; rfl
@[simp high] theorem mod_nn {a b : Nat} (h : 0 < b) : modP [.int (a : Int), .int (b : Int)] = some (.int ((a % b : Nat) : Int)) := by rw [mod_ii (by omega)]; simp
@[simp high] theorem eq_nn (a b : Nat) : eqP [.int (a : Int), .int (b : Int)] = some (.bl (decide (a = b))) := by
  rw [eq_ii]
  exact congrArg (fun b => some (P.bl b)) (decide_eq_decide.mpr (by omega))
@[simp high] theorem ne_nn (a b : Nat) : neP [.int (a : Int), .int (b : Int)] = some (.bl (!decide (a = b))) := by
  rw [ne_ii]
  exact congrArg (fun b => some (P.bl !b)) (decide_eq_decide.mpr (by omega))
@[simp high] theorem lt_nn (a b : Nat) : ltP [.int (a : Int), .int (b : Int)] = some (.bl (decide (a < b))) := by rw [lt_ii]; simp
@[simp high] theorem le_nn (a b : Nat) : leP [.int (a : Int), .int (b : Int)] = some (.bl (decide (a ≤ b))) := by rw [le_ii]; simp
@[simp high] theorem gt_nn (a b : Nat) : gtP [.int (a : Int), .int (b : Int)] = some (.bl (decide (b < a))) := by rw [gt_ii]; simp
@[simp high] theorem ge_nn (a b : Nat) : geP [.int (a : Int), .int (b : Int)] = some (.bl (decide (b ≤ a))) := by rw [ge_ii]; simp
/-! indexes -/
theorem ixN_nat {n i : Nat} (h : i < n) : ixN' n (i : Int) = some i := by
  simp [ixN', h]
theorem atP_nat {α : Type} {xs : List α} {i : Nat} (h : i < xs.length) : atP xs (i : Int) = xs[i]? := by
  simp [atP, ixN_nat h]
theorem atP_neg1 {α : Type} {xs : List α} (h : xs ≠ []) : atP xs (-1) = xs.getLast? := by
  have : 0 < xs.length := List.length_pos_iff.mpr h
  have h2 : ((-1 : Int) + xs.length).toNat = xs.length - 1 := by omega
  simp only [atP, ixN']
  rw [if_neg (by omega), if_pos (by omega), h2]
  simp [List.getLast?_eq_getElem?]
@[simp] theorem ix_l0 (x : P) (r : List P) : ixP [.lst (x :: r), .int 0] = some x := by simp [ixP, atP, ixN']
@[simp] theorem ix_t0 (x : P) (r : List P) : ixP [.tup (x :: r), .int 0] = some x := by simp [ixP, atP, ixN']
@[simp] theorem ix_t1 (x y : P) (r : List P) : ixP [.tup (x :: y :: r), .int 1] = some y := (atP_nat (i := 1) (by simp)).trans rfl
@[simp] theorem ix_t2 (x y z : P) (r : List P) : ixP [.tup (x :: y :: z :: r), .int 2] = some z := (atP_nat (i := 2) (by simp)).trans rfl
@[simp] theorem ix_l1 (x y : P) (r : List P) : ixP [.lst (x :: y :: r), .int 1] = some y := (atP_nat (i := 1) (by simp)).trans rfl
@[simp] theorem ix_l2 (x y z : P) (r : List P) : ixP [.lst (x :: y :: z :: r), .int 2] = some z := (atP_nat (i := 2) (by simp)).trans rfl
theorem ix_ln {xs : List P} {i : Nat} (h : i < xs.length) : ixP [.lst xs, .int i] = xs[i]? := atP_nat h
theorem ix_tn {xs : List P} {i : Nat} (h : i < xs.length) : ixP [.tup xs, .int i] = xs[i]? := atP_nat h
theorem ix_sn {xs : List Nat} {i : Nat} (h : i < xs.length) : ixP [.str xs, .int i] = some (.str [xs[i]]) := by
  show (atP xs (i : Int)).map _ = _
  rw [atP_nat h]
  simp [h]
/-! ### loops -/
/-- what goes on -/
def Nxt2 (r : S2) (Q : E2 → Prop) : Prop := match r with
  | .nx e => Q e
  | .ct e => Q e
  | _ => False
@[simp] theorem Nxt2_nx (e : E2) (Q : E2 → Prop) : Nxt2 (.nx e) Q ↔ Q e := Iff.rfl
@[simp] theorem Nxt2_ct (e : E2) (Q : E2 → Prop) : Nxt2 (.ct e) Q ↔ Q e := Iff.rfl
theorem Nxt2_ite {c : Prop} [Decidable c] {a b : S2} {Q : E2 → Prop} (h1 : c → Nxt2 a Q) (h2 : ¬ c → Nxt2 b Q) : Nxt2 (if c then a else b) Q := by
  split
  · exact h1 (by assumption)
  · exact h2 (by assumption)
theorem for2_inv {chk : E2 → Bool} {f : P → E2 → S2} (I : Nat → E2 → Prop) : ∀ {items : List P} {n : Nat} {e : E2}, (∀ n e, I n e → chk e = true) → I n e → (∀ (i : Nat) (x : P), items[i]? = some x → ∀ e, I (n + i) e → Nxt2 (f x e) (I (n + i + 1))) →
    ∃ e', forL2 chk f items e = .nx e' ∧ I (n + items.length) e'
  | [], n, e, hc, hi, h => ⟨e, by simp [forL2, hc n e hi], hi⟩
  | x :: r, n, e, hc, hi, h => by
    have q := h 0 x rfl e hi
    have key : ∀ e1, I (n + 1) e1 → ∃ e', forL2 chk f r e1 = .nx e' ∧ I (n + 1 + r.length) e' := fun e1 i1 => for2_inv I (items := r) (n := n + 1) hc i1 fun i y hy e hI => by
      have := h (i + 1) y (by simpa using hy) e (by rw [show n + (i + 1) = n + 1 + i by omega]; exact hI)
      rw [show n + (i + 1) + 1 = n + 1 + i + 1 by omega] at this
      exact this
    unfold forL2
    rw [if_pos (hc n e hi), List.length_cons, show n + (r.length + 1) = n + 1 + r.length by omega]
    cases hf : f x e with
    | nx e1 => rw [hf] at q; exact key e1 q
    | ct e1 => rw [hf] at q; exact key e1 q
    | _ => rw [hf] at q; exact q.elim
theorem for2 {C : Prop} {chk : E2 → Bool} {f : P → E2 → S2} {items : List P} {e : E2} {r : S2} (hr : forL2 chk f items e = r) (I : Nat → E2 → Prop) (hc : ∀ n e, I n e → chk e = true) (hi : I 0 e) (h : ∀ (i : Nat) (x : P), items[i]? = some x → ∀ e, I i e → Nxt2 (f x e) (I (i + 1))) (k : ∀ e', r = .nx e' → I items.length e' → C) : C := by
  obtain ⟨e', q, i⟩ := for2_inv (n := 0) I hc hi fun i x hx e hI => by
    simp only [Nat.zero_add] at hI ⊢
    exact h i x hx e hI
  rw [Nat.zero_add] at i
  exact k e' (hr ▸ q) i
/-- a for that ends early: E says what a turn leaves -/
theorem for2_ret {C : Prop} {chk : E2 → Bool} {f : P → E2 → S2} {items : List P} {e : E2} {r : S2} (hr : forL2 chk f items e = r) (I : Nat → E2 → Prop) (R : S2 → Prop) (hc : ∀ n e, I n e → chk e = true) (hi : I 0 e)
    (h : ∀ (i : Nat) (x : P), items[i]? = some x → ∀ e, I i e → Nxt2 (f x e) (I (i + 1)) ∨ ((∃ d e', f x e = .ret d e' ∧ R (.ret d e')) ∨ (∃ c fs e', f x e = .ex c fs e' ∧ R (.ex c fs e'))))
    (k1 : ∀ e', r = .nx e' → I items.length e' → C) (k2 : R r → C) : C := by
  have key : ∀ (items : List P) (n : Nat) (e : E2), I n e → (∀ (i : Nat) (x : P), items[i]? = some x → ∀ e, I (n + i) e → Nxt2 (f x e) (I (n + i + 1)) ∨ ((∃ d e', f x e = .ret d e' ∧ R (.ret d e')) ∨ (∃ c fs e', f x e = .ex c fs e' ∧ R (.ex c fs e')))) → (∃ e', forL2 chk f items e = .nx e' ∧ I (n + items.length) e') ∨ R (forL2 chk f items e) := by
    intro items
    induction items with
    | nil => intro n e hi h; exact .inl ⟨e, by simp [forL2, hc n e hi], hi⟩
    | cons x r ih =>
      intro n e hi h
      unfold forL2
      rw [if_pos (hc n e hi), List.length_cons, show n + (r.length + 1) = n + 1 + r.length by omega]
      have key : ∀ e1, I (n + 1) e1 → (∃ e', forL2 chk f r e1 = .nx e' ∧ I (n + 1 + r.length) e') ∨ R (forL2 chk f r e1) := fun e1 i1 => ih (n + 1) e1 i1 fun i y hy e hI => by
        have := h (i + 1) y (by simpa using hy) e (by rw [show n + (i + 1) = n + 1 + i by omega]; exact hI)
        rw [show n + (i + 1) + 1 = n + 1 + i + 1 by omega] at this
        exact this
      rcases h 0 x rfl e hi with q | ⟨d, e', q, z⟩ | ⟨c, fs, e', q, z⟩
      · cases hf : f x e with
        | nx e1 => rw [hf] at q; exact key e1 q
        | ct e1 => rw [hf] at q; exact key e1 q
        | _ => rw [hf] at q; exact q.elim
      · rw [q]; exact .inr z
      · rw [q]; exact .inr z
  rcases key items 0 e hi (fun i x hx e hI => by simp only [Nat.zero_add] at hI ⊢; exact h i x hx e hI) with ⟨e', q, i⟩ | q
  · rw [Nat.zero_add] at i
    exact k1 e' (hr ▸ q) i
  · exact k2 (hr ▸ q)
def Itm2 (r : R2 (Option P)) (Q : Option P → E2 → Prop) : Prop := match r with
  | .ok o e => Q o e
  | _ => False
@[simp] theorem Itm2_ok (o : Option P) (e : E2) (Q : Option P → E2 → Prop) : Itm2 (.ok o e) Q ↔ Q o e := Iff.rfl
theorem comp2_inv {chk : E2 → Bool} {f : P → E2 → R2 (Option P)} (I : Nat → List P → E2 → Prop) : ∀ {items : List P} {n : Nat} {ys : List P} {e : E2}, (∀ n ys e, I n ys e → chk e = true) → I n ys e → (∀ (i : Nat) (x : P), items[i]? = some x → ∀ zs e, I (n + i) zs e → Itm2 (f x e) fun o e' => I (n + i + 1) (zs ++ o.toList) e') →
    ∃ zs e', compL2 chk f items e = .ok zs e' ∧ I (n + items.length) (ys ++ zs) e'
  | [], n, ys, e, hc, hi, h => ⟨[], e, by simp [compL2, hc n ys e hi], by simpa using hi⟩
  | x :: r, n, ys, e, hc, hi, h => by
    have q := h 0 x rfl ys e hi
    cases hf : f x e with
    | ex c fs e1 => rw [hf] at q; exact q.elim
    | no => rw [hf] at q; exact q.elim
    | ok o e1 =>
      rw [hf] at q
      obtain ⟨zs, e2, h2, i2⟩ := comp2_inv I (items := r) (n := n + 1) (ys := ys ++ o.toList) hc q fun i z hz ws e hI => by
        have := h (i + 1) z (by simpa using hz) ws e (by rw [show n + (i + 1) = n + 1 + i by omega]; exact hI)
        rw [show n + (i + 1) + 1 = n + 1 + i + 1 by omega] at this
        exact this
      refine ⟨o.toList ++ zs, e2, ?_, ?_⟩
      · unfold compL2
        rw [if_pos (hc n ys e hi), hf]
        simp only [h2]
        cases o <;> rfl
      · rw [List.length_cons, show n + (r.length + 1) = n + 1 + r.length by omega, ← List.append_assoc]
        exact i2
theorem comp2 {C : Prop} {chk : E2 → Bool} {f : P → E2 → R2 (Option P)} {items : List P} {e : E2} {r : R2 (List P)} (hr : compL2 chk f items e = r) (I : Nat → List P → E2 → Prop) (hc : ∀ n ys e, I n ys e → chk e = true) (hi : I 0 [] e) (h : ∀ (i : Nat) (x : P), items[i]? = some x → ∀ zs e, I i zs e → Itm2 (f x e) fun o e' => I (i + 1) (zs ++ o.toList) e') (k : ∀ zs e', r = .ok zs e' → I items.length zs e' → C) : C := by
  obtain ⟨zs, e', q, i⟩ := comp2_inv (n := 0) (ys := []) I hc hi fun i x hx zs e hI => by
    simp only [Nat.zero_add] at hI ⊢
    exact h i x hx zs e hI
  rw [Nat.zero_add, List.nil_append] at i
  exact k zs e' (hr ▸ q) i
theorem comp2_filterMap {α : Type} {chk : E2 → Bool} {f : P → E2 → R2 (Option P)} (emb : α → P) (g : α → Option P) {e : E2} (hc : chk e = true) : ∀ {xs : List α}, (∀ x ∈ xs, f (emb x) e = .ok (g x) e) → compL2 chk f (xs.map emb) e = .ok (xs.filterMap g) e
  | [], h => by simp [compL2, hc]
  | x :: r, h => by
    rw [List.map_cons]
    unfold compL2
    rw [if_pos hc, h x List.mem_cons_self]
    simp only [comp2_filterMap emb g hc fun y hy => h y (List.mem_cons_of_mem _ hy), List.filterMap_cons]
    cases g x <;> rfl
theorem comp2_map {α : Type} {chk : E2 → Bool} {f : P → E2 → R2 (Option P)} (emb g : α → P) {xs : List α} {e : E2} (hc : chk e = true) (h : ∀ x ∈ xs, f (emb x) e = .ok (some (g x)) e) : compL2 chk f (xs.map emb) e = .ok (xs.map g) e := by
  rw [comp2_filterMap emb (fun x => some (g x)) hc h, List.filterMap_eq_map']
theorem comp2_filter {α : Type} {chk : E2 → Bool} {f : P → E2 → R2 (Option P)} (emb g : α → P) (q : α → Bool) {xs : List α} {e : E2} (hc : chk e = true) (h : ∀ x ∈ xs, f (emb x) e = .ok (if q x then some (g x) else none) e) : compL2 chk f (xs.map emb) e = .ok ((xs.filter q).map g) e := by
  rw [comp2_filterMap emb (fun x => if q x then some (g x) else none) hc h]
  congr 1
  clear h
  induction xs with
  | nil => rfl
  | cons x r ih =>
    simp only [List.filterMap_cons, List.filter_cons]
    cases q x <;> simp [ih]
end DL

namespace DL
def ir_is_whole : Fn := ⟨1, 0,
  (.cons (.ret (.and_ (.op (isiP "int") (.cons (.v 0) .nil)) (.not_ (.op (isiP "bool") (.cons (.v 0) .nil)))))
  .nil)⟩
def ir_is_tile : Fn := ⟨1, 0,
  (.cons (.ret (.and_ (.op (isiP "str") (.cons (.v 0) .nil)) (.and_ (.op eqP (.cons (.op lenQ (.cons (.v 0) .nil)) (.cons (.c (.int 1)) .nil))) (.op inSignP (.cons (.v 0) (.cons (.c (.str [97, 98, 99, 100, 101, 102, 103, 104, 105, 106, 107, 108, 109, 110, 111, 112, 113, 114, 115, 116, 117, 118, 119, 120, 121, 122])) .nil))))))
  .nil)⟩
def ir_tiles_of : Fn := ⟨1, 2,
  (.cons (.ret (.comp [1, 2] (.many [1, 2]) itemsP (.cons (.op ixP (.cons (.v 0) (.cons (.c (.int 2)) .nil))) .nil) (.c (.bl true)) (.v 1)))
  .nil)⟩
def ir_block_of : Fn := ⟨2, 2,
  (.cons (.for_ (.many [2, 3]) itemsP (.cons (.op ixP (.cons (.v 0) (.cons (.c (.int 2)) .nil))) .nil) (.cons (.iff (.op eqP (.cons (.v 2) (.cons (.v 1) .nil))) (.cons (.ret (.v 3))
  .nil) .nil)
  .nil))
  (.cons (.raise 5 (.cons (.v 1) .nil))
  .nil))⟩
def ir_line_by : Fn := ⟨3, 3,
  (.cons (.asg (.one 3) (.new (.pk lstP (.cons (.v 1) .nil))))
  (.cons (.for_ (.many [4, 5]) itemsP (.cons (.v 2) .nil) (.cons (.expr (.mut (isTy "list") appendM (.v 3) (.cons (.op ixP (.cons (.op ixP (.cons (.call 8 (.cons (.v 0) (.cons (.op ixP (.cons (.v 3) (.cons (.op negP (.cons (.c (.int 1)) .nil)) .nil))) .nil))) (.cons (.v 4) .nil))) (.cons (.v 5) .nil))) .nil)))
  .nil))
  (.cons (.ret (.v 3))
  .nil)))⟩
def ir_digits_good : Fn := ⟨2, 1,
  (.cons (.iff (.not_ (.op (isiP "list") (.cons (.v 1) .nil))) (.cons (.ret (.c (.bl false)))
  .nil) .nil)
  (.cons (.for_ (.one 2) itemsP (.cons (.v 1) .nil) (.cons (.iff (.or_ (.not_ (.op (isiP "tuple") (.cons (.v 2) .nil))) (.or_ (.op neP (.cons (.op lenQ (.cons (.v 2) .nil)) (.cons (.c (.int 2)) .nil))) (.or_ (.not_ (.call 62 (.cons (.op ixP (.cons (.v 2) (.cons (.c (.int 0)) .nil))) .nil))) (.not_ (.call 62 (.cons (.op ixP (.cons (.v 2) (.cons (.c (.int 1)) .nil))) .nil)))))) (.cons (.ret (.c (.bl false)))
  .nil) .nil)
  (.cons (.iff (.or_ (.not_ (.chain (chB leP) (chB ltP) (.c (.int 0)) (.op ixP (.cons (.v 2) (.cons (.c (.int 0)) .nil))) (.op ixP (.cons (.v 0) (.cons (.c (.int 0)) .nil))))) (.not_ (.chain (chB leP) (chB ltP) (.c (.int 0)) (.op ixP (.cons (.v 2) (.cons (.c (.int 1)) .nil))) (.op ixP (.cons (.v 0) (.cons (.c (.int 1)) .nil)))))) (.cons (.ret (.c (.bl false)))
  .nil) .nil)
  .nil)))
  (.cons (.ret (.c (.bl true)))
  .nil)))⟩
def ir_place_far : Fn := ⟨2, 4,
  (.cons (.iff (.or_ (.not_ (.call 41 (.cons (.v 0) (.cons (.v 1) .nil)))) (.op gtP (.cons (.op lenQ (.cons (.v 1) .nil)) (.cons (.c (.int 60)) .nil)))) (.cons (.raise 1 .nil)
  .nil) .nil)
  (.cons (.asg (.one 2) (.c (.int 0)))
  (.cons (.asg (.one 3) (.c (.int 0)))
  (.cons (.for_ (.many [4, 5]) itemsP (.cons (.v 1) .nil) (.cons (.asg (.one 2) (.op addP (.cons (.op mulP (.cons (.v 2) (.cons (.op ixP (.cons (.v 0) (.cons (.c (.int 0)) .nil))) .nil))) (.cons (.v 4) .nil))))
  (.cons (.asg (.one 3) (.op addP (.cons (.op mulP (.cons (.v 3) (.cons (.op ixP (.cons (.v 0) (.cons (.c (.int 1)) .nil))) .nil))) (.cons (.v 5) .nil))))
  .nil)))
  (.cons (.ret (.pk tupQ (.cons (.v 2) (.cons (.v 3) .nil))))
  .nil)))))⟩
def ir_line_holds : Fn := ⟨2, 3,
  (.cons (.iff (.or_ (.not_ (.op (isiP "tuple") (.cons (.v 1) .nil))) (.or_ (.op neP (.cons (.op lenQ (.cons (.v 1) .nil)) (.cons (.c (.int 2)) .nil))) (.not_ (.op (isiP "list") (.cons (.op ixP (.cons (.v 1) (.cons (.c (.int 0)) .nil))) .nil))))) (.cons (.ret (.c (.bl false)))
  .nil) .nil)
  (.cons (.asg (.many [2, 3]) (.v 1))
  (.cons (.iff (.or_ (.not_ (.call 41 (.cons (.v 0) (.cons (.v 3) .nil)))) (.op neP (.cons (.op lenQ (.cons (.v 2) .nil)) (.cons (.op addP (.cons (.op lenQ (.cons (.v 3) .nil)) (.cons (.c (.int 1)) .nil))) .nil)))) (.cons (.ret (.c (.bl false)))
  .nil) .nil)
  (.cons (.iff (.not_ (.op allP (.cons (.comp [4] (.one 4) itemsP (.cons (.v 2) .nil) (.c (.bl true)) (.and_ (.call 61 (.cons (.v 4) .nil)) (.op inQ (.cons (.v 4) (.cons (.call 484 (.cons (.v 0) .nil)) .nil))))) .nil))) (.cons (.ret (.c (.bl false)))
  .nil) .nil)
  (.cons (.ret (.op eqP (.cons (.frz (.call 421 (.cons (.v 0) (.cons (.op ixP (.cons (.v 2) (.cons (.c (.int 0)) .nil))) (.cons (.v 3) .nil))))) (.cons (.v 2) .nil))))
  .nil)))))⟩
def ir_law_cell_at : Fn := ⟨2, 0,
  (.cons (.iff (.op ltP (.cons (.v 1) (.cons (.op lenQ (.cons (.v 0) .nil)) .nil))) (.cons (.ret (.op ixP (.cons (.v 0) (.cons (.v 1) .nil))))
  .nil) .nil)
  (.cons (.ret (.c (.int 0)))
  .nil))⟩
def ir_law_next : Fn := ⟨1, 0,
  (.cons (.asg (.one 0) (.op modP (.cons (.op addP (.cons (.v 0) (.cons (.c (.int 7919)) .nil))) (.cons (.c (.int 2147483647)) .nil))))
  (.cons (.ret (.op modP (.cons (.op addP (.cons (.op addP (.cons (.op mulP (.cons (.v 0) (.cons (.v 0) .nil))) (.cons (.op mulP (.cons (.c (.int 48271)) (.cons (.v 0) .nil))) .nil))) (.cons (.c (.int 12345)) .nil))) (.cons (.c (.int 2147483629)) .nil))))
  .nil))⟩
def ir_law_pen_of : Fn := ⟨1, 1,
  (.cons (.asg (.one 1) (.op max2P (.cons (.v 0) (.cons (.op subP (.cons (.c (.int 0)) (.cons (.v 0) .nil))) .nil))))
  (.cons (.ret (.new (.pk lstP (.cons (.v 1) (.cons (.op intP (.cons (.op geP (.cons (.v 1) (.cons (.op powP (.cons (.c (.int 10)) (.cons (.c (.int 18)) .nil))) .nil))) .nil)) (.cons (.op modP (.cons (.v 1) (.cons (.c (.int 1000003)) .nil))) .nil))))))
  .nil))⟩
def ir_law_draw : Fn := ⟨2, 1,
  (.cons (.iff (.op eqP (.cons (.op ixP (.cons (.v 0) (.cons (.c (.int 1)) .nil))) (.cons (.c (.int 1)) .nil))) (.cons (.asg (.one 2) (.op modP (.cons (.op ixP (.cons (.v 0) (.cons (.c (.int 0)) .nil))) (.cons (.v 1) .nil))))
  (.cons (.sub setM (.v 0) (.c (.int 0)) (.op fdivP (.cons (.op ixP (.cons (.v 0) (.cons (.c (.int 0)) .nil))) (.cons (.v 1) .nil))))
  (.cons (.ret (.v 2))
  .nil))) .nil)
  (.cons (.sub setM (.v 0) (.c (.int 2)) (.call 247 (.cons (.op addP (.cons (.call 247 (.cons (.op ixP (.cons (.v 0) (.cons (.c (.int 2)) .nil))) .nil)) (.cons (.c (.int 7)) .nil))) .nil)))
  (.cons (.ret (.op modP (.cons (.op fdivP (.cons (.op ixP (.cons (.v 0) (.cons (.c (.int 2)) .nil))) (.cons (.c (.int 64)) .nil))) (.cons (.v 1) .nil))))
  .nil)))⟩
def ir_law_whole : Fn := ⟨1, 0,
  (.cons (.ret (.and_ (.op (isiP "int") (.cons (.v 0) .nil)) (.not_ (.op (isiP "bool") (.cons (.v 0) .nil)))))
  .nil)⟩
def ir_law_kind_of_k12 : Fn := ⟨1, 2,
  (.cons (.asg (.one 1) (.new (.pk lstP (.cons (.isx (fun c => decide (c = 0)) (.v 0)) (.cons (.isx (fun c => decide (c = 1)) (.v 0)) .nil)))))
  (.cons (.asg (.one 1) (.new (.op catP (.cons (.v 1) (.cons (.pk lstP (.cons (.isx (fun c => decide (c = 2)) (.v 0)) (.cons (.isx (fun c => decide (c = 3)) (.v 0)) .nil))) .nil)))))
  (.cons (.asg (.one 1) (.new (.op catP (.cons (.v 1) (.cons (.pk lstP (.cons (.isx (fun c => decide (c = 4)) (.v 0)) (.cons (.isx (fun c => decide (c = 5)) (.v 0)) .nil))) .nil)))))
  (.cons (.asg (.one 1) (.new (.op catP (.cons (.v 1) (.cons (.pk lstP (.cons (.isx (fun c => decide (c = 6)) (.v 0)) (.cons (.isx (fun c => decide (c = 7)) (.v 0)) .nil))) .nil)))))
  (.cons (.expr (.mut (isTy "list") appendM (.v 1) (.cons (.isx (fun c => decide (c = 8)) (.v 0)) .nil)))
  (.cons (.iff (.or_ (.not_ (.isx (fun _ => true) (.v 0))) (.op neP (.cons (.meth (isTy "list") lcountP (.v 1) (.cons (.c (.bl true)) .nil)) (.cons (.c (.int 1)) .nil)))) (.cons (.ret (.c (.str [111, 116, 104, 101, 114])))
  .nil) .nil)
  (.cons (.asg (.one 2) (.pk lstP (.cons (.c (.str [102, 108, 111, 111, 114])) (.cons (.c (.str [112, 108, 97, 99, 101])) (.cons (.c (.str [110, 117, 109, 98, 101, 114])) (.cons (.c (.str [114, 111, 119])) (.cons (.c (.str [117, 110, 108, 105, 107, 101])) (.cons (.c (.str [116, 105, 108, 101])) (.cons (.c (.str [114, 117, 108, 101])) (.cons (.c (.str [116, 101, 120, 116])) (.cons (.c (.str [103, 114, 101, 97, 116])) .nil)))))))))))
  (.cons (.ret (.op ixP (.cons (.v 2) (.cons (.meth (isTy "list") indexP (.v 1) (.cons (.c (.bl true)) .nil)) .nil))))
  .nil))))))))⟩
def ir_law_rule_by_k09 : Fn := ⟨2, 13,
  (.cons (.asg (.one 2) (.c (.str [97, 98, 99, 100, 101, 102, 103, 104, 105, 106, 107, 108, 109, 110, 111, 112, 113, 114, 115, 116, 117, 118, 119, 120, 121, 122])))
  (.cons (.asg (.many [3, 4]) (.op ixP (.cons (.pk lstP (.cons (.pk tupQ (.cons (.c (.int 2)) (.cons (.c (.int 2)) .nil))) (.cons (.pk tupQ (.cons (.c (.int 1)) (.cons (.c (.int 2)) .nil))) (.cons (.pk tupQ (.cons (.c (.int 2)) (.cons (.c (.int 1)) .nil))) (.cons (.pk tupQ (.cons (.c (.int 2)) (.cons (.c (.int 2)) .nil))) (.cons (.pk tupQ (.cons (.c (.int 1)) (.cons (.c (.int 3)) .nil))) (.cons (.pk tupQ (.cons (.c (.int 2)) (.cons (.c (.int 3)) .nil))) (.cons (.pk tupQ (.cons (.c (.int 3)) (.cons (.c (.int 1)) .nil))) (.cons (.pk tupQ (.cons (.c (.int 3)) (.cons (.c (.int 2)) .nil))) (.cons (.pk tupQ (.cons (.c (.int 4)) (.cons (.c (.int 4)) .nil))) (.cons (.pk tupQ (.cons (.c (.int 2)) (.cons (.c (.int 2)) .nil))) .nil))))))))))) (.cons (.call 111 (.cons (.v 0) (.cons (.c (.int 10)) .nil))) .nil))))
  (.cons (.asg (.one 5) (.call 111 (.cons (.v 0) (.cons (.op subP (.cons (.c (.int 27)) (.cons (.v 1) .nil))) .nil))))
  (.cons (.asg (.one 6) (.op sliceP (.cons (.v 2) (.cons (.part (.v 5)) (.cons (.part (.op addP (.cons (.op addP (.cons (.v 5) (.cons (.c (.int 1)) .nil))) (.cons (.call 111 (.cons (.v 0) (.cons (.v 1) .nil))) .nil)))) .nil)))))
  (.cons (.asg (.one 7) (.op addP (.cons (.c (.int 1)) (.cons (.call 111 (.cons (.v 0) (.cons (.c (.int 3)) .nil))) .nil))))
  (.cons (.asg (.one 8) (.new (.pk lstP .nil)))
  (.cons (.for_ (.one 9) itemsP (.cons (.v 6) .nil) (.cons (.asg (.one 10) (.new (.pk lstP .nil)))
  (.cons (.for_ (.one 11) range1P (.cons (.v 3) .nil) (.cons (.asg (.one 12) (.comp [14] (.one 14) range1P (.cons (.v 4) .nil) (.c (.bl true)) (.op ixP (.cons (.v 6) (.cons (.op fdivP (.cons (.call 111 (.cons (.v 0) (.cons (.op lenQ (.cons (.v 6) .nil)) .nil))) (.cons (.v 7) .nil))) .nil)))))
  (.cons (.expr (.mut (isTy "list") appendM (.v 10) (.cons (.meth (isTy "str") joinP (.c (.str [])) (.cons (.v 12) .nil)) .nil)))
  .nil)))
  (.cons (.expr (.mut (isTy "list") appendM (.v 8) (.cons (.pk tupQ (.cons (.v 9) (.cons (.op tupleP (.cons (.v 10) .nil)) .nil))) .nil)))
  .nil))))
  (.cons (.iff (.op eqP (.cons (.call 111 (.cons (.v 0) (.cons (.c (.int 2)) .nil))) (.cons (.c (.int 0)) .nil))) (.cons (.asg (.many [9, 13]) (.op ixP (.cons (.v 8) (.cons (.c (.int 0)) .nil))))
  (.cons (.sub setM (.v 8) (.c (.int 0)) (.pk tupQ (.cons (.v 9) (.cons (.op addP (.cons (.pk tupQ (.cons (.op addP (.cons (.v 9) (.cons (.op sliceP (.cons (.op ixP (.cons (.v 13) (.cons (.c (.int 0)) .nil))) (.cons (.part (.c (.int 1))) (.cons (.c .non) .nil)))) .nil))) .nil)) (.cons (.op sliceP (.cons (.v 13) (.cons (.part (.c (.int 1))) (.cons (.c .non) .nil)))) .nil))) .nil))))
  .nil)) .nil)
  (.cons (.ret (.pk tupQ (.cons (.v 3) (.cons (.v 4) (.cons (.op tupleP (.cons (.v 8) .nil)) .nil)))))
  .nil)))))))))⟩
def ir_law_tiles_of : Fn := ⟨1, 2,
  (.cons (.ret (.comp [1, 2] (.many [1, 2]) itemsP (.cons (.op ixP (.cons (.v 0) (.cons (.c (.int 2)) .nil))) .nil) (.c (.bl true)) (.v 1)))
  .nil)⟩
def ir_law_digits_good : Fn := ⟨2, 2,
  (.cons (.iff (.not_ (.op (isiP "list") (.cons (.v 1) .nil))) (.cons (.ret (.c (.bl false)))
  .nil) .nil)
  (.cons (.for_ (.one 2) itemsP (.cons (.v 1) .nil) (.cons (.iff (.or_ (.not_ (.op (isiP "tuple") (.cons (.v 2) .nil))) (.or_ (.op neP (.cons (.op lenQ (.cons (.v 2) .nil)) (.cons (.c (.int 2)) .nil))) (.not_ (.op allP (.cons (.comp [3] (.one 3) itemsP (.cons (.v 2) .nil) (.c (.bl true)) (.call 413 (.cons (.v 3) .nil))) .nil))))) (.cons (.ret (.c (.bl false)))
  .nil) .nil)
  (.cons (.iff (.or_ (.not_ (.chain (chB leP) (chB ltP) (.c (.int 0)) (.op ixP (.cons (.v 2) (.cons (.c (.int 0)) .nil))) (.op ixP (.cons (.v 0) (.cons (.c (.int 0)) .nil))))) (.not_ (.chain (chB leP) (chB ltP) (.c (.int 0)) (.op ixP (.cons (.v 2) (.cons (.c (.int 1)) .nil))) (.op ixP (.cons (.v 0) (.cons (.c (.int 1)) .nil)))))) (.cons (.ret (.c (.bl false)))
  .nil) .nil)
  .nil)))
  (.cons (.ret (.c (.bl true)))
  .nil)))⟩
def ir_law_due_of_k13 : Fn := ⟨2, 4,
  (.cons (.iff (.or_ (.not_ (.op (isiP "tuple") (.cons (.v 1) .nil))) (.or_ (.op neP (.cons (.op lenQ (.cons (.v 1) .nil)) (.cons (.c (.int 2)) .nil))) (.not_ (.op (isiP "list") (.cons (.op ixP (.cons (.v 1) (.cons (.c (.int 0)) .nil))) .nil))))) (.cons (.ret (.c (.bl false)))
  .nil) .nil)
  (.cons (.iff (.or_ (.not_ (.call 108 (.cons (.v 0) (.cons (.op ixP (.cons (.v 1) (.cons (.c (.int 1)) .nil))) .nil)))) (.op neP (.cons (.op lenQ (.cons (.op ixP (.cons (.v 1) (.cons (.c (.int 0)) .nil))) .nil)) (.cons (.op addP (.cons (.op lenQ (.cons (.op ixP (.cons (.v 1) (.cons (.c (.int 1)) .nil))) .nil)) (.cons (.c (.int 1)) .nil))) .nil)))) (.cons (.ret (.c (.bl false)))
  .nil) .nil)
  (.cons (.asg (.one 2) (.op dictP (.cons (.op ixP (.cons (.v 0) (.cons (.c (.int 2)) .nil))) .nil)))
  (.cons (.iff (.not_ (.op allP (.cons (.comp [5] (.one 5) itemsP (.cons (.op ixP (.cons (.v 1) (.cons (.c (.int 0)) .nil))) .nil) (.c (.bl true)) (.and_ (.op (isiP "str") (.cons (.v 5) .nil)) (.op inQ (.cons (.v 5) (.cons (.v 2) .nil))))) .nil))) (.cons (.ret (.c (.bl false)))
  .nil) .nil)
  (.cons (.for_ (.many [3, 4]) enumP (.cons (.op ixP (.cons (.v 1) (.cons (.c (.int 1)) .nil))) .nil) (.cons (.iff (.op neP (.cons (.op ixP (.cons (.op ixP (.cons (.op ixQ (.cons (.v 2) (.cons (.op ixP (.cons (.op ixP (.cons (.v 1) (.cons (.c (.int 0)) .nil))) (.cons (.v 3) .nil))) .nil))) (.cons (.op ixP (.cons (.v 4) (.cons (.c (.int 0)) .nil))) .nil))) (.cons (.op ixP (.cons (.v 4) (.cons (.c (.int 1)) .nil))) .nil))) (.cons (.op ixP (.cons (.op ixP (.cons (.v 1) (.cons (.c (.int 0)) .nil))) (.cons (.op addP (.cons (.v 3) (.cons (.c (.int 1)) .nil))) .nil))) .nil))) (.cons (.ret (.c (.bl false)))
  .nil) .nil)
  .nil))
  (.cons (.ret (.c (.bl true)))
  .nil))))))⟩
def ir_law_line_of : Fn := ⟨2, 4,
  (.cons (.asg (.one 2) (.op dictP (.cons (.op ixP (.cons (.v 1) (.cons (.c (.int 2)) .nil))) .nil)))
  (.cons (.asg (.one 3) (.new (.pk lstP (.cons (.op ixP (.cons (.call 388 (.cons (.v 1) .nil)) (.cons (.call 111 (.cons (.v 0) (.cons (.op lenQ (.cons (.op ixP (.cons (.v 1) (.cons (.c (.int 2)) .nil))) .nil)) .nil))) .nil))) .nil))))
  (.cons (.asg (.one 4) (.new (.pk lstP .nil)))
  (.cons (.for_ (.one 5) range1P (.cons (.op ixP (.cons (.pk lstP (.cons (.call 111 (.cons (.v 0) (.cons (.c (.int 7)) .nil))) (.cons (.c (.int 60)) .nil))) (.cons (.op intP (.cons (.op eqP (.cons (.call 111 (.cons (.v 0) (.cons (.c (.int 8)) .nil))) (.cons (.c (.int 0)) .nil))) .nil)) .nil))) .nil) (.cons (.expr (.mut (isTy "list") appendM (.v 4) (.cons (.pk tupQ (.cons (.call 111 (.cons (.v 0) (.cons (.op ixP (.cons (.v 1) (.cons (.c (.int 0)) .nil))) .nil))) (.cons (.call 111 (.cons (.v 0) (.cons (.op ixP (.cons (.v 1) (.cons (.c (.int 1)) .nil))) .nil))) .nil))) .nil)))
  (.cons (.expr (.mut (isTy "list") appendM (.v 3) (.cons (.op ixP (.cons (.op ixP (.cons (.op ixQ (.cons (.v 2) (.cons (.op ixP (.cons (.v 3) (.cons (.op negP (.cons (.c (.int 1)) .nil)) .nil))) .nil))) (.cons (.op ixP (.cons (.op ixP (.cons (.v 4) (.cons (.op negP (.cons (.c (.int 1)) .nil)) .nil))) (.cons (.c (.int 0)) .nil))) .nil))) (.cons (.op ixP (.cons (.op ixP (.cons (.v 4) (.cons (.op negP (.cons (.c (.int 1)) .nil)) .nil))) (.cons (.c (.int 1)) .nil))) .nil))) .nil)))
  .nil)))
  (.cons (.ret (.pk tupQ (.cons (.frz (.v 3)) (.cons (.frz (.v 4)) .nil))))
  .nil)))))⟩
def ir_law_odd_digits : Fn := ⟨3, 3,
  (.cons (.asg (.one 3) (.call 111 (.cons (.v 0) (.cons (.op addP (.cons (.op lenQ (.cons (.v 2) .nil)) (.cons (.c (.int 1)) .nil))) .nil))))
  (.cons (.asg (.one 4) (.pk tupQ (.cons (.c (.int 0)) (.cons (.c (.int 0)) .nil))))
  (.cons (.iff (.op ltP (.cons (.v 3) (.cons (.op lenQ (.cons (.v 2) .nil)) .nil))) (.cons (.asg (.one 4) (.op ixP (.cons (.v 2) (.cons (.v 3) .nil))))
  .nil) .nil)
  (.cons (.asg (.one 5) (.pk lstP (.cons (.pk tupQ (.cons (.op addP (.cons (.op ixP (.cons (.v 4) (.cons (.c (.int 0)) .nil))) (.cons (.c (.int 1)) .nil))) (.cons (.op ixP (.cons (.v 4) (.cons (.c (.int 1)) .nil))) .nil))) (.cons (.pk tupQ (.cons (.op ixP (.cons (.v 4) (.cons (.c (.int 0)) .nil))) (.cons (.op addP (.cons (.op ixP (.cons (.v 4) (.cons (.c (.int 1)) .nil))) (.cons (.c (.int 1)) .nil))) .nil))) (.cons (.pk tupQ (.cons (.op ixP (.cons (.v 1) (.cons (.c (.int 0)) .nil))) (.cons (.c (.int 0)) .nil))) .nil)))))
  (.cons (.asg (.one 5) (.op addP (.cons (.v 5) (.cons (.pk lstP (.cons (.pk tupQ (.cons (.c (.int 0)) (.cons (.op ixP (.cons (.v 1) (.cons (.c (.int 1)) .nil))) .nil))) (.cons (.pk tupQ (.cons (.op negP (.cons (.c (.int 1)) .nil)) (.cons (.c (.int 0)) .nil))) (.cons (.pk tupQ (.cons (.c (.int 0)) (.cons (.op negP (.cons (.c (.int 1)) .nil)) .nil))) .nil)))) .nil))))
  (.cons (.asg (.one 5) (.op addP (.cons (.v 5) (.cons (.pk lstP (.cons (.pk tupQ (.cons (.c (.bl false)) (.cons (.c (.int 0)) .nil))) (.cons (.pk tupQ (.cons (.c (.int 0)) (.cons (.c (.bl false)) .nil))) (.cons (.pk tupQ (.cons (.c .non) (.cons (.c (.int 0)) .nil))) (.cons (.pk tupQ (.cons (.c (.str [48])) (.cons (.c (.int 0)) .nil))) (.cons (.op addP (.cons (.v 4) (.cons (.pk tupQ (.cons (.c (.int 0)) .nil)) .nil))) .nil)))))) .nil))))
  (.cons (.asg (.one 5) (.op addP (.cons (.v 5) (.cons (.pk lstP (.cons (.op sliceP (.cons (.v 4) (.cons (.c .non) (.cons (.part (.c (.int 1))) .nil)))) (.cons (.op listQ (.cons (.v 4) .nil)) (.cons (.c .non) (.cons (.c (.int 0)) (.cons (.c (.str [48, 48])) .nil)))))) .nil))))
  (.cons (.ret (.op addP (.cons (.op addP (.cons (.op sliceP (.cons (.v 2) (.cons (.c .non) (.cons (.part (.v 3)) .nil)))) (.cons (.pk lstP (.cons (.op ixP (.cons (.op addP (.cons (.v 5) (.cons (.pk lstP (.cons (.pk tupQ (.cons (.v 4) (.cons (.v 4) .nil))) .nil)) .nil))) (.cons (.call 111 (.cons (.v 0) (.cons (.c (.int 17)) .nil))) .nil))) .nil)) .nil))) (.cons (.op sliceP (.cons (.v 2) (.cons (.part (.op addP (.cons (.v 3) (.cons (.c (.int 1)) .nil)))) (.cons (.c .non) .nil)))) .nil))))
  .nil))))))))⟩
def ir_law_odd_of_k13 : Fn := ⟨3, 6,
  (.cons (.asg (.many [3, 4]) (.v 2))
  (.cons (.asg (.one 5) (.call 111 (.cons (.v 0) (.cons (.op lenQ (.cons (.v 3) .nil)) .nil))))
  (.cons (.asg (.one 6) (.op ixP (.cons (.call 388 (.cons (.v 1) .nil)) (.cons (.call 111 (.cons (.v 0) (.cons (.op lenQ (.cons (.op ixP (.cons (.v 1) (.cons (.c (.int 2)) .nil))) .nil)) .nil))) .nil))))
  (.cons (.asg (.one 7) (.new (.pk lstP .nil)))
  (.cons (.for_ (.one 8) itemsP (.cons (.pk lstP (.cons (.v 6) (.cons (.v 6) (.cons (.c (.str [65])) (.cons (.c (.str [])) (.cons (.c (.str [97, 98])) (.cons (.c .non) (.cons (.c (.int 0)) (.cons (.pk lstP (.cons (.v 6) .nil)) .nil))))))))) .nil) (.cons (.expr (.mut (isTy "list") appendM (.v 7) (.cons (.pk tupQ (.cons (.op addP (.cons (.op addP (.cons (.op sliceP (.cons (.v 3) (.cons (.c .non) (.cons (.part (.v 5)) .nil)))) (.cons (.pk lstP (.cons (.v 8) .nil)) .nil))) (.cons (.op sliceP (.cons (.v 3) (.cons (.part (.op addP (.cons (.v 5) (.cons (.c (.int 1)) .nil)))) (.cons (.c .non) .nil)))) .nil))) (.cons (.v 4) .nil))) .nil)))
  .nil))
  (.cons (.asg (.one 7) (.new (.op catP (.cons (.v 7) (.cons (.pk lstP (.cons (.pk tupQ (.cons (.op tupleP (.cons (.v 3) .nil)) (.cons (.v 4) .nil))) (.cons (.pk tupQ (.cons (.v 3) (.cons (.op tupleP (.cons (.v 4) .nil)) .nil))) (.cons (.pk lstP (.cons (.v 3) (.cons (.v 4) .nil))) .nil)))) .nil)))))
  (.cons (.asg (.one 7) (.new (.op catP (.cons (.v 7) (.cons (.pk lstP (.cons (.pk tupQ (.cons (.v 3) .nil)) (.cons (.pk tupQ (.cons (.v 3) (.cons (.v 4) (.cons (.c (.int 0)) .nil)))) .nil))) .nil)))))
  (.cons (.asg (.one 7) (.new (.op catP (.cons (.v 7) (.cons (.pk lstP (.cons (.pk tupQ (.cons (.op sliceP (.cons (.v 3) (.cons (.c .non) (.cons (.part (.op negP (.cons (.c (.int 1)) .nil))) .nil)))) (.cons (.v 4) .nil))) (.cons (.pk tupQ (.cons (.op addP (.cons (.v 3) (.cons (.pk lstP (.cons (.v 6) .nil)) .nil))) (.cons (.v 4) .nil))) (.cons (.pk tupQ (.cons (.v 3) (.cons (.op sliceP (.cons (.v 4) (.cons (.part (.c (.int 1))) (.cons (.c .non) .nil)))) .nil))) .nil)))) .nil)))))
  (.cons (.asg (.one 7) (.new (.op catP (.cons (.v 7) (.cons (.pk lstP (.cons (.pk tupQ (.cons (.v 4) (.cons (.v 3) .nil))) (.cons (.c .non) .nil))) .nil)))))
  (.cons (.asg (.one 7) (.new (.op catP (.cons (.op addP (.cons (.v 7) (.cons (.op mulP (.cons (.pk lstP (.cons (.pk tupQ (.cons (.v 3) (.cons (.call 255 (.cons (.v 0) (.cons (.v 1) (.cons (.v 4) .nil)))) .nil))) .nil)) (.cons (.c (.int 9)) .nil))) .nil))) (.cons (.pk lstP (.cons (.pk tupQ (.cons (.c (.str [])) (.cons (.v 4) .nil))) (.cons (.pk tupQ (.cons (.op revP (.cons (.v 3) .nil)) (.cons (.v 4) .nil))) .nil))) .nil)))))
  (.cons (.ret (.op ixP (.cons (.op addP (.cons (.v 7) (.cons (.pk lstP (.cons (.pk tupQ (.cons (.pk tupQ .nil) (.cons (.pk tupQ .nil) .nil))) (.cons (.pk tupQ (.cons (.pk lstP .nil) (.cons (.pk lstP .nil) .nil))) (.cons (.c (.int 7)) (.cons (.pk dnewP .nil) .nil))))) .nil))) (.cons (.call 111 (.cons (.v 0) (.cons (.op addP (.cons (.op lenQ (.cons (.v 7) .nil)) (.cons (.c (.int 4)) .nil))) .nil))) .nil))))
  .nil)))))))))))⟩
def ir_law_refused_k13 : Fn := ⟨2, 1,
  (.cons (.try_ (.cons (.expr (.call 447 (.cons (.v 0) (.cons (.v 1) .nil))))
  .nil) (fun _ => true) (some 2) (.cons (.ret (.op eqP (.cons (.call 227 (.cons (.v 2) .nil)) (.cons (.c (.str [112, 108, 97, 99, 101])) .nil))))
  .nil))
  (.cons (.ret (.c (.bl false)))
  .nil))⟩
def ir_law_right_k13 : Fn := ⟨2, 2,
  (.cons (.asg (.one 2) (.call 122 (.cons (.v 0) (.cons (.v 1) .nil))))
  (.cons (.asg (.one 3) (.call 423 (.cons (.v 0) (.cons (.v 1) .nil))))
  (.cons (.ret (.and_ (.op (isiP "bool") (.cons (.v 3) .nil)) (.and_ (.op eqP (.cons (.v 3) (.cons (.v 2) .nil))) (.op eqP (.cons (.call 423 (.cons (.v 0) (.cons (.v 1) .nil))) (.cons (.v 2) .nil))))))
  .nil)))⟩
def ir_law_k13 : Fn := ⟨1, 6,
  (.cons (.for_ (.one 1) itemsP (.cons (.op addP (.cons (.pk lstP (.cons (.call 86 (.cons (.v 0) (.cons (.c (.int 0)) .nil))) .nil)) (.cons (.op sliceP (.cons (.v 0) (.cons (.part (.c (.int 1))) (.cons (.part (.c (.int 6))) .nil)))) .nil))) .nil) (.cons (.asg (.one 2) (.call 285 (.cons (.v 1) .nil)))
  (.cons (.asg (.one 3) (.call 343 (.cons (.v 2) (.cons (.c (.int 6)) .nil))))
  (.cons (.asg (.one 4) (.call 239 (.cons (.v 2) (.cons (.v 3) .nil))))
  (.cons (.iff (.op isNotBP (.cons (.call 423 (.cons (.v 3) (.cons (.v 4) .nil))) (.cons (.c (.bl true)) .nil))) (.cons (.ret (.c (.bl false)))
  .nil) .nil)
  (.cons (.for_ (.one 5) range1P (.cons (.c (.int 5)) .nil) (.cons (.iff (.not_ (.call 314 (.cons (.v 3) (.cons (.call 259 (.cons (.v 2) (.cons (.v 3) (.cons (.v 4) .nil)))) .nil)))) (.cons (.ret (.c (.bl false)))
  .nil) .nil)
  .nil))
  (.cons (.for_ (.one 6) itemsP (.cons (.pk lstP (.cons (.call 255 (.cons (.v 2) (.cons (.v 3) (.cons (.op ixP (.cons (.v 4) (.cons (.c (.int 1)) .nil))) .nil)))) (.cons (.op tupleP (.cons (.op ixP (.cons (.v 4) (.cons (.c (.int 1)) .nil))) .nil)) (.cons (.c .non) (.cons (.op mulP (.cons (.pk lstP (.cons (.pk tupQ (.cons (.c (.int 0)) (.cons (.c (.int 0)) .nil))) .nil)) (.cons (.c (.int 61)) .nil))) (.cons (.c (.str [])) (.cons (.pk dnewP .nil) (.cons (.c (.int 0)) .nil)))))))) .nil) (.cons (.iff (.or_ (.not_ (.call 108 (.cons (.v 3) (.cons (.v 6) .nil)))) (.op gtP (.cons (.op lenQ (.cons (.v 6) .nil)) (.cons (.c (.int 60)) .nil)))) (.cons (.iff (.not_ (.call 299 (.cons (.v 3) (.cons (.v 6) .nil)))) (.cons (.ret (.c (.bl false)))
  .nil) .nil)
  .nil) .nil)
  .nil))
  .nil)))))))
  (.cons (.ret (.c (.bl true)))
  .nil))⟩
def PR : Prog := fun i =>
  if i = 62 then some ir_is_whole else
  if i = 61 then some ir_is_tile else
  if i = 484 then some ir_tiles_of else
  if i = 8 then some ir_block_of else
  if i = 421 then some ir_line_by else
  if i = 41 then some ir_digits_good else
  if i = 447 then some ir_place_far else
  if i = 423 then some ir_line_holds else
  if i = 86 then some ir_law_cell_at else
  if i = 247 then some ir_law_next else
  if i = 285 then some ir_law_pen_of else
  if i = 111 then some ir_law_draw else
  if i = 413 then some ir_law_whole else
  if i = 227 then some ir_law_kind_of_k12 else
  if i = 343 then some ir_law_rule_by_k09 else
  if i = 388 then some ir_law_tiles_of else
  if i = 108 then some ir_law_digits_good else
  if i = 122 then some ir_law_due_of_k13 else
  if i = 239 then some ir_law_line_of else
  if i = 255 then some ir_law_odd_digits else
  if i = 259 then some ir_law_odd_of_k13 else
  if i = 299 then some ir_law_refused_k13 else
  if i = 314 then some ir_law_right_k13 else
  if i = 174 then some ir_law_k13 else
  none
end DL

namespace DL
/-- 0 thing -/
theorem U_is_whole (k : Nat) (v0 : V) : run2 PR (k + 1) 62 [v0] = fin2 [v0] (evSs2 (run2 PR k) turnsMost 1 ir_is_whole.body [some v0]) := run2_at (fn := ir_is_whole) rfl rfl
/-- 0 thing -/
theorem U_is_tile (k : Nat) (v0 : V) : run2 PR (k + 1) 61 [v0] = fin2 [v0] (evSs2 (run2 PR k) turnsMost 1 ir_is_tile.body [some v0]) := run2_at (fn := ir_is_tile) rfl rfl
/-- 0 rule, 1 tile, 2 block -/
theorem U_tiles_of (k : Nat) (v0 : V) : run2 PR (k + 1) 484 [v0] = fin2 [v0] (evSs2 (run2 PR k) turnsMost 1 ir_tiles_of.body [some v0, none, none]) := run2_at (fn := ir_tiles_of) rfl rfl
/-- 0 rule, 1 tile, 2 other, 3 block -/
theorem U_block_of (k : Nat) (v0 v1 : V) : run2 PR (k + 1) 8 [v0, v1] = fin2 [v0, v1] (evSs2 (run2 PR k) turnsMost 2 ir_block_of.body [some v0, some v1, none, none]) := run2_at (fn := ir_block_of) rfl rfl
/-- 0 rule, 1 tile, 2 digits, 3 found, 4 i, 5 j -/
theorem U_line_by (k : Nat) (v0 v1 v2 : V) : run2 PR (k + 1) 421 [v0, v1, v2] = fin2 [v0, v1, v2] (evSs2 (run2 PR k) turnsMost 3 ir_line_by.body [some v0, some v1, some v2, none, none, none]) := run2_at (fn := ir_line_by) rfl rfl
/-- 0 rule, 1 thing, 2 pair -/
theorem U_digits_good (k : Nat) (v0 v1 : V) : run2 PR (k + 1) 41 [v0, v1] = fin2 [v0, v1] (evSs2 (run2 PR k) turnsMost 2 ir_digits_good.body [some v0, some v1, none]) := run2_at (fn := ir_digits_good) rfl rfl
/-- 0 rule, 1 digits, 2 row, 3 column, 4 i, 5 j -/
theorem U_place_far (k : Nat) (v0 v1 : V) : run2 PR (k + 1) 447 [v0, v1] = fin2 [v0, v1] (evSs2 (run2 PR k) turnsMost 2 ir_place_far.body [some v0, some v1, none, none, none, none]) := run2_at (fn := ir_place_far) rfl rfl
/-- 0 rule, 1 thing, 2 tiles, 3 digits, 4 tile -/
theorem U_line_holds (k : Nat) (v0 v1 : V) : run2 PR (k + 1) 423 [v0, v1] = fin2 [v0, v1] (evSs2 (run2 PR k) turnsMost 2 ir_line_holds.body [some v0, some v1, none, none, none]) := run2_at (fn := ir_line_holds) rfl rfl
/-- 0 script, 1 k -/
theorem U_law_cell_at (k : Nat) (v0 v1 : V) : run2 PR (k + 1) 86 [v0, v1] = fin2 [v0, v1] (evSs2 (run2 PR k) turnsMost 2 ir_law_cell_at.body [some v0, some v1]) := run2_at (fn := ir_law_cell_at) rfl rfl
/-- 0 seed -/
theorem U_law_next (k : Nat) (v0 : V) : run2 PR (k + 1) 247 [v0] = fin2 [v0] (evSs2 (run2 PR k) turnsMost 1 ir_law_next.body [some v0]) := run2_at (fn := ir_law_next) rfl rfl
/-- 0 cell, 1 left -/
theorem U_law_pen_of (k : Nat) (v0 : V) : run2 PR (k + 1) 285 [v0] = fin2 [v0] (evSs2 (run2 PR k) turnsMost 1 ir_law_pen_of.body [some v0, none]) := run2_at (fn := ir_law_pen_of) rfl rfl
/-- 0 pen, 1 many, 2 found -/
theorem U_law_draw (k : Nat) (v0 v1 : V) : run2 PR (k + 1) 111 [v0, v1] = fin2 [v0, v1] (evSs2 (run2 PR k) turnsMost 2 ir_law_draw.body [some v0, some v1, none]) := run2_at (fn := ir_law_draw) rfl rfl
/-- 0 found -/
theorem U_law_whole (k : Nat) (v0 : V) : run2 PR (k + 1) 413 [v0] = fin2 [v0] (evSs2 (run2 PR k) turnsMost 1 ir_law_whole.body [some v0]) := run2_at (fn := ir_law_whole) rfl rfl
/-- 0 e, 1 marks, 2 words -/
theorem U_law_kind_of_k12 (k : Nat) (v0 : V) : run2 PR (k + 1) 227 [v0] = fin2 [v0] (evSs2 (run2 PR k) turnsMost 1 ir_law_kind_of_k12.body [some v0, none, none]) := run2_at (fn := ir_law_kind_of_k12) rfl rfl
/-- 0 pen, 1 most, 2 letters, 3 high, 4 wide, 5 start, 6 tiles, 7 alike, 8 blocks, 9 tile, 10 rows, 11 row, 12 signs, 13 block, 14 column -/
theorem U_law_rule_by_k09 (k : Nat) (v0 v1 : V) : run2 PR (k + 1) 343 [v0, v1] = fin2 [v0, v1] (evSs2 (run2 PR k) turnsMost 2 ir_law_rule_by_k09.body [some v0, some v1, none, none, none, none, none, none, none, none, none, none, none, none, none]) := run2_at (fn := ir_law_rule_by_k09) rfl rfl
/-- 0 rule, 1 tile, 2 block -/
theorem U_law_tiles_of (k : Nat) (v0 : V) : run2 PR (k + 1) 388 [v0] = fin2 [v0] (evSs2 (run2 PR k) turnsMost 1 ir_law_tiles_of.body [some v0, none, none]) := run2_at (fn := ir_law_tiles_of) rfl rfl
/-- 0 rule, 1 thing, 2 pair, 3 one -/
theorem U_law_digits_good (k : Nat) (v0 v1 : V) : run2 PR (k + 1) 108 [v0, v1] = fin2 [v0, v1] (evSs2 (run2 PR k) turnsMost 2 ir_law_digits_good.body [some v0, some v1, none, none]) := run2_at (fn := ir_law_digits_good) rfl rfl
/-- 0 rule, 1 thing, 2 blocks, 3 k, 4 pair, 5 tile -/
theorem U_law_due_of_k13 (k : Nat) (v0 v1 : V) : run2 PR (k + 1) 122 [v0, v1] = fin2 [v0, v1] (evSs2 (run2 PR k) turnsMost 2 ir_law_due_of_k13.body [some v0, some v1, none, none, none, none]) := run2_at (fn := ir_law_due_of_k13) rfl rfl
/-- 0 pen, 1 rule, 2 blocks, 3 tiles, 4 digits, 5 turn -/
theorem U_law_line_of (k : Nat) (v0 v1 : V) : run2 PR (k + 1) 239 [v0, v1] = fin2 [v0, v1] (evSs2 (run2 PR k) turnsMost 2 ir_law_line_of.body [some v0, some v1, none, none, none, none]) := run2_at (fn := ir_law_line_of) rfl rfl
/-- 0 pen, 1 rule, 2 digits, 3 spot, 4 pair, 5 some -/
theorem U_law_odd_digits (k : Nat) (v0 v1 v2 : V) : run2 PR (k + 1) 255 [v0, v1, v2] = fin2 [v0, v1, v2] (evSs2 (run2 PR k) turnsMost 3 ir_law_odd_digits.body [some v0, some v1, some v2, none, none, none]) := run2_at (fn := ir_law_odd_digits) rfl rfl
/-- 0 pen, 1 rule, 2 line, 3 tiles, 4 digits, 5 spot, 6 other, 7 some, 8 one -/
theorem U_law_odd_of_k13 (k : Nat) (v0 v1 v2 : V) : run2 PR (k + 1) 259 [v0, v1, v2] = fin2 [v0, v1, v2] (evSs2 (run2 PR k) turnsMost 3 ir_law_odd_of_k13.body [some v0, some v1, some v2, none, none, none, none, none, none]) := run2_at (fn := ir_law_odd_of_k13) rfl rfl
/-- 0 rule, 1 thing, 2 e -/
theorem U_law_refused_k13 (k : Nat) (v0 v1 : V) : run2 PR (k + 1) 299 [v0, v1] = fin2 [v0, v1] (evSs2 (run2 PR k) turnsMost 2 ir_law_refused_k13.body [some v0, some v1, none]) := run2_at (fn := ir_law_refused_k13) rfl rfl
/-- 0 rule, 1 thing, 2 due, 3 found -/
theorem U_law_right_k13 (k : Nat) (v0 v1 : V) : run2 PR (k + 1) 314 [v0, v1] = fin2 [v0, v1] (evSs2 (run2 PR k) turnsMost 2 ir_law_right_k13.body [some v0, some v1, none, none]) := run2_at (fn := ir_law_right_k13) rfl rfl
/-- 0 script, 1 cell, 2 pen, 3 rule, 4 line, 5 turn, 6 odd -/
theorem U_law_k13 (k : Nat) (v0 : V) : run2 PR (k + 1) 174 [v0] = fin2 [v0] (evSs2 (run2 PR k) turnsMost 1 ir_law_k13.body [some v0, none, none, none, none, none, none]) := run2_at (fn := ir_law_k13) rfl rfl
end DL

set_option maxHeartbeats 1000000
namespace DL
/-! ### sizes of products -/
theorem log2_small {a : Int} {n : Nat} (h : a.natAbs < 2 ^ n) (hn : 0 < n) : a.natAbs.log2 < n := by
  by_cases h0 : a.natAbs = 0
  · rw [h0]; simpa using hn
  · exact (Nat.log2_lt h0).mpr h
theorem mul_small {a b : Int} (ha : a.natAbs < 2 ^ 64) (hb : b.natAbs < 2 ^ 64) : mulP [.int a, .int b] = some (.int (a * b)) := by
  have h1 := log2_small ha (by decide)
  have h2 := log2_small hb (by decide)
  simp only [mulP]
  rw [if_pos (by omega)]
theorem mul_big {a b : Int} (ha : a.natAbs < 2 ^ 4000) (hb : b.natAbs < 2 ^ 4000) : mulP [.int a, .int b] = some (.int (a * b)) := by
  have h1 := log2_small ha (by decide)
  have h2 := log2_small hb (by decide)
  simp only [mulP]
  rw [if_pos (by omega)]
theorem fdiv_small {a b : Int} (h0 : 0 < b) (hb : b < 2 ^ 64) : fdivP [.int a, .int b] = some (.int (a / b)) := by
  have h1 := log2_small (a := b) (n := 64) (by omega) (by decide)
  simp only [fdivP]
  rw [if_pos (by omega)]
theorem fdiv_pow {a b : Nat} (hb : 1 ≤ b) (hb4 : b ≤ 4) : fdivP [.int a, .int b] = some (.int ((a / b : Nat) : Int)) := by
  rw [fdiv_small (by omega) (by omega)]
  simp
/-! ### signs, texts, floors -/
theorem strsP_map : ∀ xs : List (List Nat), strsP (xs.map .str) = some xs
  | [] => rfl
  | x :: r => by simp [strsP, strsP_map r]
theorem joinL_nil : ∀ xs : List (List Nat), joinL [] xs = xs.flatten
  | [] => rfl
  | [x] => by simp [joinL]
  | x :: y :: r => by simp [joinL, joinL_nil (y :: r)]
def sgP (c : Nat) : P := .str [c]
theorem sgP_e (c : Nat) : sgP c = .str [c] := rfl
@[simp high] theorem items_sg (xs : List Nat) : itemsP [.str xs] = some (xs.map sgP) := rfl
@[simp high] theorem listQ_sg (xs : List Nat) : listQ [.str xs] = some (.lst (xs.map sgP)) := rfl
def natP (i : Nat) : P := .int i
theorem natP_e (i : Nat) : natP i = .int i := rfl
theorem strs_sg (xs : List Nat) : strsP (xs.map sgP) = some (xs.map fun c => [c]) := by
  rw [← strsP_map (xs.map fun c => [c]), List.map_map]
  rfl
theorem flat_ones : ∀ xs : List Nat, (xs.map fun c => [c]).flatten = xs
  | [] => rfl
  | x :: r => by rw [List.map_cons, List.flatten_cons, flat_ones r]; rfl
theorem sum_ones : ∀ xs : List Nat, ((xs.map fun c => [c]).map (·.length)).sum = xs.length
  | [] => rfl
  | x :: r => by
    rw [List.map_cons, List.map_cons, List.sum_cons, sum_ones r, List.length_cons]
    simp
    omega
/-- texts joined -/
theorem join_strs {xs : List (List Nat)} (h : xs.flatten.length ≤ 16777216) : joinP [.str [], .lst (xs.map .str)] = some (.str xs.flatten) := by
  simp only [joinP, strsP_map, joinL_nil, List.length_nil, Nat.mul_zero, Nat.add_zero]
  rw [List.length_flatten] at h
  exact if_pos (show (xs.map (·.length)).sum ≤ line from h)
/-- signs joined -/
theorem join_sg {xs : List Nat} (h : xs.length ≤ 16777216) : joinP [.str [], .lst (xs.map sgP)] = some (.str xs) := by
  simp only [joinP, strs_sg, joinL_nil, flat_ones, sum_ones, List.length_nil, Nat.mul_zero, Nat.add_zero]
  exact if_pos (show xs.length ≤ line from h)
theorem range_2 : range1P [.int 2] = some [.int 0, .int 1] := rfl
theorem range_3 : range1P [.int 3] = some [.int 0, .int 1, .int 2] := rfl
theorem range_nat {n : Nat} (h : n ≤ 16777216) : range1P [.int n] = some ((List.range n).map natP) := by
  rw [range1P, if_pos (by omega)]
  congr 1
  simp [rangeL, natP]
theorem rangeL_nat (n : Nat) : rangeL 0 n = (List.range n).map natP := by simp [rangeL, natP]
theorem nat_get {n i : Nat} {x : P} (h : ((List.range n).map natP)[i]? = some x) : x = .int i ∧ i < n := by
  obtain ⟨a, b⟩ := List.getElem?_eq_some_iff.mp h
  simp [natP] at a b
  exact ⟨b.symm, a⟩
theorem map_get {α : Type} {f : α → P} {xs : List α} {i : Nat} {x : P} (h : (xs.map f)[i]? = some x) : ∃ a, xs[i]? = some a ∧ x = f a := by
  simp only [List.getElem?_map, Option.map_eq_some_iff] at h
  obtain ⟨a, b, c⟩ := h
  exact ⟨a, b, c.symm⟩
/-- a floor -/
def flP (rows : List (List Nat)) : P := .tup (rows.map .str)
theorem flP_e (rows : List (List Nat)) : flP rows = .tup (rows.map .str) := rfl
/-- a floor: rows of one length, signs out of cs -/
structure IsFl (cs : List Nat) (rows : List (List Nat)) (n w : Nat) : Prop where
  n : rows.length = n
  w : ∀ r ∈ rows, r.length = w
  cs : ∀ r ∈ rows, ∀ c ∈ r, c ∈ cs
theorem flP_eqv (xs ys : List (List Nat)) : P.eqv (flP xs) (flP ys) = decide (xs = ys) := by
  simp only [flP, P.eqv, eqvs_strs]
theorem flP_shp (n : Nat) (xs : List (List Nat)) : P.shp (n + 1) (flP xs) = true := by
  simp only [flP, P.shp, shps_strs]
@[simp] theorem eq_fl (xs ys : List (List Nat)) : eqP [flP xs, flP ys] = some (.bl (decide (xs = ys))) := by simp [eqP, flP_shp, flP_eqv]
@[simp] theorem ne_fl (xs ys : List (List Nat)) : neP [flP xs, flP ys] = some (.bl (!decide (xs = ys))) := by simp [neP, flP_shp, flP_eqv]
@[simp] theorem isi_fl (T : String) (xs : List (List Nat)) : isiP T [flP xs] = some (.bl (decide (T = "tuple"))) := rfl
@[simp] theorem items_fl (xs : List (List Nat)) : itemsP [flP xs] = some (xs.map .str) := rfl
@[simp] theorem len_fl (xs : List (List Nat)) : lenQ [flP xs] = some (.int xs.length) := by simp [flP]
@[simp high] theorem tuple_fl (xs : List (List Nat)) : tupleP [.lst (xs.map .str)] = some (flP xs) := rfl
theorem range2_nn {a n : Nat} (h : n ≤ 16777216) : range2Q [.int (a : Int), .int ((a + n : Nat) : Int)] = some ((List.range n).map fun i => natP (a + i)) := by
  simp only [range2Q]
  rw [if_pos (by omega)]
  simp only [rangeL, natP]
  rw [show (((a + n : Nat) : Int) - a).toNat = n by omega]
  simp
theorem ix_fl {xs : List (List Nat)} {i : Nat} (h : i < xs.length) : ixP [flP xs, .int i] = some (.str xs[i]) := by
  rw [flP, ix_tn (by simpa using h)]
  simp [h]
@[simp] theorem isPair_sg (c : Nat) : isPair (sgP c) = false := rfl
theorem ix_lneg {xs : List P} (h : xs ≠ []) : ixP [.lst xs, .int (-1)] = xs.getLast? := atP_neg1 h
theorem ix_sneg {xs : List Nat} (h : xs ≠ []) : ixP [.str xs, .int (-1)] = xs.getLast?.map fun c => .str [c] := by
  show (atP xs (-1)).map _ = _
  rw [atP_neg1 h]
theorem ix_s0 {xs : List Nat} (h : 0 < xs.length) : ixP [.str xs, .int 0] = some (.str [xs[0]]) := ix_sn (i := 0) h
theorem ix_l00 {xs : List P} (h : 0 < xs.length) : ixP [.lst xs, .int 0] = some xs[0] := by
  have := ix_ln (i := 0) h
  rw [List.getElem?_eq_getElem h] at this
  exact this
/-! ### rules -/
/-- the tiles -/
def tls (bs : List (Nat × List (List Nat))) : List Nat := bs.map (·.1)
structure IsRule (h w : Nat) (bs : List (Nat × List (List Nat))) : Prop where
  h1 : 1 ≤ h
  h4 : h ≤ 4
  w1 : 1 ≤ w
  w4 : w ≤ 4
  hw : 3 ≤ h + w
  ne : bs ≠ []
  srt : (tls bs).Pairwise (· < ·)
  low : ∀ b ∈ bs, 97 ≤ b.1 ∧ b.1 ≤ 122
  fl : ∀ b ∈ bs, IsFl (tls bs) b.2 h w
  many : bs.length ≤ 26
def blockP (b : Nat × List (List Nat)) : P := .tup [sgP b.1, flP b.2]
theorem blockP_e (b : Nat × List (List Nat)) : blockP b = .tup [sgP b.1, flP b.2] := rfl
def ruleP (h w : Nat) (bs : List (Nat × List (List Nat))) : P := .tup [.int h, .int w, .tup (bs.map blockP)]
theorem ruleP_e (h w : Nat) (bs : List (Nat × List (List Nat))) : ruleP h w bs = .tup [.int h, .int w, .tup (bs.map blockP)] := rfl
@[simp] theorem rule_0 (h w : Nat) (bs : List (Nat × List (List Nat))) : ixP [ruleP h w bs, .int 0] = some (.int h) := by simp [ruleP]
@[simp] theorem rule_1 (h w : Nat) (bs : List (Nat × List (List Nat))) : ixP [ruleP h w bs, .int 1] = some (.int w) := by simp [ruleP]
@[simp] theorem rule_2 (h w : Nat) (bs : List (Nat × List (List Nat))) : ixP [ruleP h w bs, .int 2] = some (.tup (bs.map blockP)) := by simp [ruleP]
@[simp] theorem asg_block (np a b : Nat) (x : Nat × List (List Nat)) (e : E2) : assignTg2 np (.many [a, b]) (.p (blockP x)) e = setMany2 np [a, b] [sgP x.1, flP x.2] e := rfl
@[simp] theorem eq_sg (a b : Nat) : eqP [sgP a, sgP b] = some (.bl (decide (a = b))) := by simp [sgP]
@[simp] theorem ne_sg (a b : Nat) : neP [sgP a, sgP b] = some (.bl (!decide (a = b))) := by simp [sgP]
@[simp] theorem isi_sg (T : String) (a : Nat) : isiP T [sgP a] = some (.bl (decide (T = "str"))) := rfl
/-- a tile's block -/
def blk (bs : List (Nat × List (List Nat))) (t : Nat) : List (List Nat) := match bs.find? (fun b => b.1 == t) with
  | some b => b.2
  | none => []
theorem IsRule.find {h w : Nat} {bs : List (Nat × List (List Nat))} (r : IsRule h w bs) {t : Nat} (ht : t ∈ tls bs) : ∃ b, bs.find? (fun b => b.1 == t) = some b ∧ b ∈ bs ∧ b.1 = t ∧ blk bs t = b.2 := by
  obtain ⟨b0, hb0, rfl⟩ := List.mem_map.mp ht
  cases hf : bs.find? (fun b => b.1 == b0.1) with
  | none =>
    have := List.find?_eq_none.mp hf b0 hb0
    simp at this
  | some b => exact ⟨b, rfl, List.mem_of_find?_eq_some hf, by simpa using List.find?_some hf, by simp [blk, hf]⟩
theorem IsRule.blk {h w : Nat} {bs : List (Nat × List (List Nat))} (r : IsRule h w bs) {t : Nat} (ht : t ∈ tls bs) : IsFl (tls bs) (blk bs t) h w := by
  obtain ⟨b, _, hb, _, e⟩ := r.find ht
  rw [e]
  exact r.fl b hb
theorem allP_true {α : Type} (xs : List α) (f : α → P) (h : ∀ x ∈ xs, f x = .bl true) : allP [.lst (xs.map f)] = some (.bl true) := by
  rw [List.map_congr_left (g := fun _ => P.bl true) h, all_map (fun _ => true)]
  simp
theorem tls_pos {h w : Nat} {bs : List (Nat × List (List Nat))} (ru : IsRule h w bs) : 0 < (tls bs).length := by
  have := List.length_pos_iff.mpr ru.ne
  simpa [tls] using this
theorem tls_len (bs : List (Nat × List (List Nat))) : (tls bs).length = bs.length := by simp [tls]
theorem tls_at {bs : List (Nat × List (List Nat))} {v : Nat} (hv : v < (tls bs).length) : ixP [.lst ((tls bs).map sgP), .int v] = some (sgP (tls bs)[v]) := by
  rw [ix_ln (by simpa using hv)]
  simp [hv]
/-! ### pens -/
def IsPen (o : O) : Prop := ∃ a b c : Int, o = .lst [.int a, .int b, .int c]
theorem IsPen.mk (a b c : Int) : IsPen (.lst [.int a, .int b, .int c]) := ⟨a, b, c, rfl⟩
theorem IsPen.flat {o : O} (h : IsPen o) : flatB o = true := by
  obtain ⟨a, b, c, rfl⟩ := h
  rfl
def nextI (s : Int) : Int := ((s + 7919) % 2147483647 * ((s + 7919) % 2147483647) + 48271 * ((s + 7919) % 2147483647) + 12345) % 2147483629
@[simp] theorem next_spec (k : Nat) (s : Int) : run2 PR (k + 1) 247 [.p (.int s)] = .ok (.p (.int (nextI s))) [] := by
  have a1 : 0 ≤ (s + 7919) % 2147483647 := Int.emod_nonneg _ (by decide)
  have a2 : (s + 7919) % 2147483647 < 2147483647 := Int.emod_lt_of_pos _ (by decide)
  rw [U_law_next]
  simp [ir_law_next, mul_small (a := (s + 7919) % 2147483647) (b := (s + 7919) % 2147483647) (by omega) (by omega), mul_small (a := 48271) (b := (s + 7919) % 2147483647) (by omega) (by omega), nextI]
@[simp] theorem cell_at_spec (k : Nat) (ns : List Int) (j : Nat) : run2 PR (k + 1) 86 [.p (.scr (ns.map .int)), .p (.int j)] = .ok (.p (.int (ns.getD j 0))) [] := by
  rw [U_law_cell_at]
  by_cases hj : j < ns.length
  · simp [ir_law_cell_at, hj, ixP, atP, ixN']
  · simp [ir_law_cell_at, hj, Nat.le_of_not_lt hj]
@[simp] theorem cell_at0 (k : Nat) (ns : List Int) : run2 PR (k + 1) 86 [.p (.scr (ns.map .int)), .p (.int 0)] = .ok (.p (.int (ns.getD 0 0))) [] := cell_at_spec k ns 0
theorem pen_el {k : Nat} {c : Int} {r : Q2} (hr : run2 PR (k + 1) 285 [.p (.int c)] = r) : ∃ o, r = .ok (.m o) [] ∧ IsPen o := by
  subst hr
  rw [U_law_pen_of]
  refine ⟨_, ?_, IsPen.mk (max c (0 - c)) (if decide (1000000000000000000 ≤ max c (0 - c)) = true then 1 else 0) (max c (0 - c) % 1000003)⟩
  simp [ir_law_pen_of, powP, intP]
theorem draw_el {k : Nat} {o : O} {m : Int} {r : Q2} (hr : run2 PR (k + 2) 111 [.m o, .p (.int m)] = r) (hp : IsPen o) (h0 : 0 < m) (h1 : m < 2 ^ 64) : ∃ (v : Nat) (o' : O), r = .ok (.p (.int v)) [o'] ∧ IsPen o' ∧ (v : Int) < m := by
  obtain ⟨a, b, c, rfl⟩ := hp
  have hd : ∀ x : Int, fdivP [.int x, .int m] = some (.int (x / m)) := fun x => fdiv_small h0 h1
  have hd2 : ∀ x : Int, fdivP [.int x, .int 64] = some (.int (x / 64)) := fun x => fdiv_small (by decide) (by decide)
  subst hr
  rw [U_law_draw]
  by_cases hb : b = 1
  · refine ⟨(a % m).toNat, .lst [.int (a / m), .int b, .int c], ?_, ⟨_, _, _, rfl⟩, ?_⟩
    · rw [Int.toNat_of_nonneg (Int.emod_nonneg _ (by omega))]
      simp [ir_law_draw, hb, h0, hd, setM, ixN']
    · rw [Int.toNat_of_nonneg (Int.emod_nonneg _ (by omega))]
      exact Int.emod_lt_of_pos _ h0
  · refine ⟨(nextI (nextI c + 7) / 64 % m).toNat, .lst [.int a, .int b, .int (nextI (nextI c + 7))], ?_, ⟨_, _, _, rfl⟩, ?_⟩
    · rw [Int.toNat_of_nonneg (Int.emod_nonneg _ (by omega))]
      simp [ir_law_draw, hb, h0, hd2, setM, ixN']
    · rw [Int.toNat_of_nonneg (Int.emod_nonneg _ (by omega))]
      exact Int.emod_lt_of_pos _ h0
/-! ### the script's cells -/
@[simp] theorem slice_scr (ns : List Int) {n : Nat} (h : 1 ≤ n) : sliceP [.scr (ns.map .int), .int 1, .int (no_index (OfNat.ofNat n))] = some (.lst (((ns.drop 1).take (n - 1)).map .int)) := by
  have key : ∀ xs : List P, cutL xs (min 1 xs.length) (min n xs.length) = (xs.drop 1).take (n - 1) := by
    intro xs
    have := cut_min xs 1 (n - 1)
    rwa [show 1 + (n - 1) = n by omega] at this
  have h1 : sIx' (ns.map P.int).length 0 (.int 1) = some (min 1 (ns.map P.int).length) := rfl
  have h2 : sIx' (ns.map P.int).length (ns.map P.int).length (.int (OfNat.ofNat n)) = some (min n (ns.map P.int).length) := sIx_nat _ _ n
  simp only [sliceP, h1, h2, key]
  rw [List.map_take, List.map_drop]
def cellsL (v : Int) (ns : List Int) (n : Nat) : List Int := v :: ns.tail.take n
theorem add_cells (v : Int) (ns : List Int) (n : Nat) (h : n ≤ 1000 := by decide) : addP [.lst [.int v], .lst ((ns.map P.int).tail.take n)] = some (.lst ((cellsL v ns n).map .int)) := by
  rw [add_lst (by simp; omega)]
  simp [cellsL, List.map_tail]
@[simp] theorem law_whole_int (k : Nat) (i : Int) : run2 PR (k + 1) 413 [.p (.int i)] = .ok (.p (.bl true)) [] := by
  rw [U_law_whole]
  simp [ir_law_whole]
@[simp] theorem is_whole_int (k : Nat) (i : Int) : run2 PR (k + 1) 62 [.p (.int i)] = .ok (.p (.bl true)) [] := by
  rw [U_is_whole]
  simp [ir_is_whole]
@[simp] theorem tiles_of_spec (k h w : Nat) (bs : List (Nat × List (List Nat))) : run2 PR (k + 1) 484 [.p (ruleP h w bs)] = .ok (.p (.lst ((tls bs).map sgP))) [] := by
  rw [U_tiles_of]
  simp [ir_tiles_of]
  rw [comp2_map blockP (fun b => sgP b.1) (by simp) fun b _ => by simp [cpI]]
  simp [tls]
@[simp] theorem law_tiles_of_spec (k h w : Nat) (bs : List (Nat × List (List Nat))) : run2 PR (k + 1) 388 [.p (ruleP h w bs)] = .ok (.p (.lst ((tls bs).map sgP))) [] := by
  rw [U_law_tiles_of]
  simp [ir_law_tiles_of]
  rw [comp2_map blockP (fun b => sgP b.1) (by simp) fun b _ => by simp [cpI]]
  simp [tls]
/-! ### loops that end early -/
theorem find2 {α : Type} {chk : E2 → Bool} {f : P → E2 → S2} (emb : α → P) (g : α → Bool) (d : α → D2) (E : E2 → Prop) (hc : ∀ e, E e → chk e = true) : ∀ {xs : List α} {e : E2}, E e → (∀ x ∈ xs, ∀ e, E e → ∃ e', E e' ∧ f (emb x) e = if g x then .ret (d x) e' else .nx e') →
    ∃ e', E e' ∧ forL2 chk f (xs.map emb) e = match xs.find? g with | some x => .ret (d x) e' | none => .nx e'
  | [], e, he, h => ⟨e, he, by simp [forL2, hc e he]⟩
  | x :: r, e, he, h => by
    obtain ⟨e1, h1, q1⟩ := h x List.mem_cons_self e he
    rw [List.map_cons]
    unfold forL2
    rw [if_pos (hc e he), q1, List.find?_cons]
    cases hg : g x with
    | true => exact ⟨e1, h1, by simp⟩
    | false =>
      obtain ⟨e2, h2, q2⟩ := find2 emb g d E hc (xs := r) h1 fun y hy => h y (List.mem_cons_of_mem _ hy)
      exact ⟨e2, h2, by simpa using q2⟩
theorem find2e {α : Type} {C : Prop} {chk : E2 → Bool} {f : P → E2 → S2} {xs : List α} {e : E2} {r : S2} {emb : α → P} (hr : forL2 chk f (xs.map emb) e = r) (g : α → Bool) (d : α → D2) (E : E2 → Prop) (hc : ∀ e, E e → chk e = true) (he : E e) (h : ∀ x ∈ xs, ∀ e, E e → ∃ e', E e' ∧ f (emb x) e = if g x then .ret (d x) e' else .nx e')
    (k : ∀ e', E e' → (r = match xs.find? g with | some x => .ret (d x) e' | none => .nx e') → C) : C := by
  obtain ⟨e', h1, q⟩ := find2 emb g d E hc he h
  exact k e' h1 (hr ▸ q)
/-- a loop over things at hand -/
theorem for_nil (chk : E2 → Bool) (f : P → E2 → S2) (e : E2) : forL2 chk f [] e = if chk e then .nx e else .no := by simp [forL2]
theorem for_cons (chk : E2 → Bool) (f : P → E2 → S2) (x : P) (r : List P) (e : E2) : forL2 chk f (x :: r) e = if chk e then whlN (forL2 chk f r) (f x e) else .no := by
  conv => lhs; unfold forL2
  cases chk e
  · rfl
  · simp only [if_true]
    cases f x e <;> rfl
@[simp] theorem whlN_nx (k : E2 → S2) (e : E2) : whlN k (.nx e) = k e := rfl
@[simp] theorem whlN_ct (k : E2 → S2) (e : E2) : whlN k (.ct e) = k e := rfl
@[simp] theorem whlN_bk (k : E2 → S2) (e : E2) : whlN k (.bk e) = .nx e := rfl
@[simp] theorem whlN_ret (k : E2 → S2) (d : D2) (e : E2) : whlN k (.ret d e) = .ret d e := rfl
@[simp] theorem whlN_ex (k : E2 → S2) (c : Nat) (fs : List P) (e : E2) : whlN k (.ex c fs e) = .ex c fs e := rfl
@[simp] theorem isPair_ti (i : Int) (r : List P) : isPair (.tup (.int i :: r)) = false := rfl
@[simp] theorem isPair_fl (rows : List (List Nat)) : isPair (flP rows) = false := by
  cases rows with
  | nil => rfl
  | cons a r => cases r with
    | nil => simp [flP, isPair]
    | cons b s => cases s with
      | nil => simp [flP, isPair]
      | cons c t => simp [flP, isPair]
theorem whl2 {C : Prop} {c : E2 → R2 D2} {f : E2 → S2} {n : Nat} {e : E2} {r : S2} (hr : whlL2 c f n e = r) (I : Nat → E2 → Prop) (N : Nat) (hN : N < n) (hi : I 0 e)
    (h : ∀ i e, I i e → ∃ b, c e = .ok (.p (.bl b)) e ∧ (b = true → i < N ∧ Nxt2 (f e) (I (i + 1)))) (k : ∀ i e', r = .nx e' → I i e' → c e' = .ok (.p (.bl false)) e' → C) : C := by
  have key : ∀ (m n i : Nat) (e : E2), N - i = m → m < n → I i e → ∃ i' e', whlL2 c f n e = .nx e' ∧ I i' e' ∧ c e' = .ok (.p (.bl false)) e' := by
    intro m
    induction m with
    | zero =>
      intro n i e hm hn hi
      obtain ⟨n, rfl⟩ : ∃ n', n = n' + 1 := ⟨n - 1, by omega⟩
      obtain ⟨b, q, hb⟩ := h i e hi
      cases b with
      | false => exact ⟨i, e, by simp [whlL2, whlB, q], hi, q⟩
      | true =>
        have := (hb rfl).1
        omega
    | succ m ih =>
      intro n i e hm hn hi
      obtain ⟨n, rfl⟩ : ∃ n', n = n' + 1 := ⟨n - 1, by omega⟩
      obtain ⟨b, q, hb⟩ := h i e hi
      cases b with
      | false => exact ⟨i, e, by simp [whlL2, whlB, q], hi, q⟩
      | true =>
        obtain ⟨h1, h2⟩ := hb rfl
        simp only [whlL2, whlB, q, boolK]
        cases hf : f e with
        | nx e1 =>
          rw [hf] at h2
          exact ih n (i + 1) e1 (by omega) (by omega) h2
        | ct e1 =>
          rw [hf] at h2
          exact ih n (i + 1) e1 (by omega) (by omega) h2
        | _ => rw [hf] at h2; exact h2.elim
  obtain ⟨i, e', q, h1, h2⟩ := key (N - 0) n 0 e rfl (by omega) hi
  exact k i e' (hr ▸ q) h1 h2
theorem whl2r {C : Prop} {c : E2 → R2 D2} {f : E2 → S2} {n : Nat} {e : E2} {r : S2} (hr : whlL2 c f n e = r) (I : Nat → E2 → Prop) (J : D2 → E2 → Prop) (N : Nat) (hN : N < n) (hi : I 0 e)
    (h : ∀ i e, I i e → i < N ∧ c e = .ok (.p (.bl true)) e ∧ ((∃ d e', f e = .ret d e' ∧ J d e') ∨ ∃ e', f e = .nx e' ∧ I (i + 1) e')) (k : ∀ d e', r = .ret d e' → J d e' → C) : C := by
  have key : ∀ (m n i : Nat) (e : E2), N - i = m → m < n → I i e → ∃ d e', whlL2 c f n e = .ret d e' ∧ J d e' := by
    intro m
    induction m with
    | zero =>
      intro n i e hm hn hi
      have := (h i e hi).1
      omega
    | succ m ih =>
      intro n i e hm hn hi
      obtain ⟨n, rfl⟩ : ∃ n', n = n' + 1 := ⟨n - 1, by omega⟩
      obtain ⟨h1, h2, h3⟩ := h i e hi
      rcases h3 with ⟨d, e', q, hj⟩ | ⟨e', q, hI⟩
      · exact ⟨d, e', by simp [whlL2, whlB, h2, q, whlN], hj⟩
      · obtain ⟨d, e2, q2, hj⟩ := ih n (i + 1) e' (by omega) (by omega) hI
        exact ⟨d, e2, by simp [whlL2, whlB, h2, q, q2, whlN], hj⟩
  obtain ⟨d, e', q, hj⟩ := key N n 0 e (by omega) hN hi
  exact k d e' (hr.symm.trans q) hj
theorem for2r {C : Prop} {chk : E2 → Bool} {f : P → E2 → S2} {xs : List P} {e : E2} {r : S2} (hr : forL2 chk f xs e = r) (I : Nat → E2 → Prop) (J : D2 → E2 → Prop) (hc : ∀ i e, I i e → chk e = true) (hi : I 0 e)
    (h : ∀ i x e, xs[i]? = some x → I i e → (∃ d e', f x e = .ret d e' ∧ J d e') ∨ ∃ e', f x e = .nx e' ∧ I (i + 1) e') (k1 : ∀ d e', r = .ret d e' → J d e' → C) (k2 : ∀ e', r = .nx e' → I xs.length e' → C) : C := by
  have key : ∀ (xs : List P) (I : Nat → E2 → Prop) (e : E2), (∀ i e, I i e → chk e = true) → I 0 e → (∀ i x e, xs[i]? = some x → I i e → (∃ d e', f x e = .ret d e' ∧ J d e') ∨ ∃ e', f x e = .nx e' ∧ I (i + 1) e') → (∃ d e', forL2 chk f xs e = .ret d e' ∧ J d e') ∨ ∃ e', forL2 chk f xs e = .nx e' ∧ I xs.length e' := by
    intro xs
    induction xs with
    | nil => exact fun I e hc hi _ => .inr ⟨e, by simp [forL2, hc 0 e hi], hi⟩
    | cons x s ih =>
      intro I e hc hi h
      have e0 := hc 0 e hi
      rcases h 0 x e rfl hi with ⟨d, e', q, hj⟩ | ⟨e', q, hI⟩
      · exact .inl ⟨d, e', by unfold forL2; rw [if_pos e0, q], hj⟩
      · have := ih (fun i => I (i + 1)) e' (fun i e => hc (i + 1) e) hI fun i x e hx => h (i + 1) x e (by simpa using hx)
        have q2 : forL2 chk f (x :: s) e = forL2 chk f s e' := by
          conv => lhs; unfold forL2
          rw [if_pos e0, q]
        rw [q2]
        exact this
  rcases key xs I e hc hi h with ⟨d, e', q, hj⟩ | ⟨e', q, hI⟩
  · exact k1 d e' (hr.symm.trans q) hj
  · exact k2 e' (hr.symm.trans q) hI
@[simp] theorem block_of_spec {h w : Nat} {bs : List (Nat × List (List Nat))} (r : IsRule h w bs) {t : Nat} (ht : t ∈ tls bs) (k : Nat) : run2 PR (k + 1) 8 [.p (ruleP h w bs), .p (sgP t)] = .ok (.p (flP (blk bs t))) [] := by
  obtain ⟨b, hf, hb, hbt, hbl⟩ := r.find ht
  rw [U_block_of]
  simp [ir_block_of]
  generalize hfor : forL2 _ _ _ _ = R0
  refine find2e hfor (fun b => b.1 == t) (fun b => .p (flP b.2)) (fun e => ∃ x y, e = [some (.p (ruleP h w bs)), some (.p (sgP t)), x, y]) (by simp) ⟨_, _, rfl⟩ ?_ ?_
  · rintro b hb e ⟨x, y, rfl⟩
    simp [foI]
    by_cases h : b.1 = t
    · simp [h]
    · simp [h]
  · rintro e' ⟨x, y, rfl⟩ rfl
    simp [hf, hbl]
theorem pow_small {b n : Nat} (hb : b ≤ 4) (hn : n ≤ 1000) : b ^ n < 2 ^ 4000 := by
  have h1 : b ^ n ≤ 4 ^ n := Nat.pow_le_pow_left hb n
  have h2 : 4 ^ n = 2 ^ (2 * n) := by rw [Nat.pow_mul]
  have h3 : (2 : Nat) ^ (2 * n) < 2 ^ 4000 := Nat.pow_lt_pow_right (by decide) (by omega)
  omega
theorem mul_pow {b n : Nat} (hb : b ≤ 4) (hn : n ≤ 1000) : mulP [.int ((b ^ n : Nat) : Int), .int b] = some (.int ((b ^ (n + 1) : Nat) : Int)) := by
  have h1 := pow_small hb hn
  have h2 : (2 : Nat) ^ 4000 > 4 := Nat.lt_of_lt_of_le (by decide : 4 < 2 ^ 3) (Nat.pow_le_pow_right (by decide) (by decide))
  rw [mul_big (by omega) (by omega), Nat.pow_succ]
  simp
/-! ### far floors -/
def dgP (d : Nat × Nat) : P := .tup [.int d.1, .int d.2]
def digs (h w g r c : Nat) : List (Nat × Nat) := ((List.range g).map fun i => (r / h ^ i % h, c / w ^ i % w)).reverse
def stepF (bs : List (Nat × List (List Nat))) (t : Nat) (d : Nat × Nat) : Nat := ((blk bs t).getD d.1 []).getD d.2 0
def lastF (bs : List (Nat × List (List Nat))) (t : Nat) (ds : List (Nat × Nat)) : Nat := ds.foldl (stepF bs) t
def lineF (bs : List (Nat × List (List Nat))) (t : Nat) (ds : List (Nat × Nat)) : List Nat := (List.range (ds.length + 1)).map fun i => lastF bs t (ds.take i)
def farT (h w : Nat) (bs : List (Nat × List (List Nat))) (t g r c : Nat) : Nat := lastF bs t (digs h w g r c)
def cutFar (h w : Nat) (bs : List (Nat × List (List Nat))) (t g r c hi wi : Nat) : List (List Nat) := (List.range hi).map fun i => (List.range wi).map fun j => farT h w bs t g (r + i) (c + j)
def DigOk (h w : Nat) (ds : List (Nat × Nat)) : Prop := ∀ d ∈ ds, d.1 < h ∧ d.2 < w
theorem digs_ok {h w : Nat} (g r c : Nat) (h1 : 1 ≤ h) (w1 : 1 ≤ w) : DigOk h w (digs h w g r c) := by
  intro d hd
  simp only [digs, List.mem_reverse, List.mem_map] at hd
  obtain ⟨i, _, rfl⟩ := hd
  exact ⟨Nat.mod_lt _ (by omega), Nat.mod_lt _ (by omega)⟩
@[simp] theorem digs_len (h w g r c : Nat) : (digs h w g r c).length = g := by simp [digs]
theorem step_in {h w : Nat} {bs : List (Nat × List (List Nat))} (r : IsRule h w bs) {t : Nat} (ht : t ∈ tls bs) {d : Nat × Nat} (h1 : d.1 < h) (h2 : d.2 < w) : stepF bs t d ∈ tls bs ∧ ∃ (a : d.1 < (blk bs t).length) (b : d.2 < (blk bs t)[d.1].length), stepF bs t d = (blk bs t)[d.1][d.2] := by
  have f := r.blk ht
  have a : d.1 < (blk bs t).length := by rw [f.n]; exact h1
  have b : d.2 < (blk bs t)[d.1].length := by rw [f.w _ (List.getElem_mem a)]; exact h2
  have e : stepF bs t d = (blk bs t)[d.1][d.2] := by
    simp only [stepF, List.getD_eq_getElem?_getD, List.getElem?_eq_getElem a, Option.getD_some, List.getElem?_eq_getElem b]
  refine ⟨?_, a, b, e⟩
  rw [e]
  exact f.cs _ (List.getElem_mem a) _ (List.getElem_mem b)
theorem last_in {h w : Nat} {bs : List (Nat × List (List Nat))} (r : IsRule h w bs) : ∀ {ds : List (Nat × Nat)} {t : Nat}, t ∈ tls bs → DigOk h w ds → lastF bs t ds ∈ tls bs
  | [], t, ht, _ => ht
  | d :: ds, t, ht, hd => last_in r (ds := ds) (step_in r ht (hd d List.mem_cons_self).1 (hd d List.mem_cons_self).2).1 fun x hx => hd x (List.mem_cons_of_mem _ hx)
theorem last_take {bs : List (Nat × List (List Nat))} {t i : Nat} {ds : List (Nat × Nat)} {d : Nat × Nat} (h : ds[i]? = some d) : lastF bs t (ds.take (i + 1)) = stepF bs (lastF bs t (ds.take i)) d := by
  obtain ⟨a, rfl⟩ := List.getElem?_eq_some_iff.mp h
  rw [List.take_succ_eq_append_getElem a, lastF, List.foldl_append]
  rfl
/-- the first so many tiles of a line -/
def lineN (bs : List (Nat × List (List Nat))) (t : Nat) (ds : List (Nat × Nat)) (n : Nat) : List Nat := (List.range (n + 1)).map fun i => lastF bs t (ds.take i)
theorem lineN_succ (bs : List (Nat × List (List Nat))) (t : Nat) (ds : List (Nat × Nat)) (n : Nat) : lineN bs t ds (n + 1) = lineN bs t ds n ++ [lastF bs t (ds.take (n + 1))] := by
  simp [lineN, List.range_succ]
theorem lineN_last (bs : List (Nat × List (List Nat))) (t : Nat) (ds : List (Nat × Nat)) (n : Nat) : ixP [.lst ((lineN bs t ds n).map sgP), .int (-1)] = some (sgP (lastF bs t (ds.take n))) := by
  show atP _ (-1) = _
  rw [atP_neg1 (by simp [lineN])]
  simp [lineN, List.range_succ, List.getLast?_append]
theorem lineF_last (bs : List (Nat × List (List Nat))) (t : Nat) (ds : List (Nat × Nat)) : ixP [.lst ((lineF bs t ds).map sgP), .int (-1)] = some (sgP (lastF bs t ds)) := by
  have := lineN_last bs t ds ds.length
  rwa [List.take_length] at this
@[simp] theorem asg_dg (np a b : Nat) (x : Nat × Nat) (e : E2) : assignTg2 np (.many [a, b]) (.p (dgP x)) e = setMany2 np [a, b] [.int x.1, .int x.2] e := rfl
@[simp] theorem isPair_dg (d : Nat × Nat) : isPair (dgP d) = false := rfl
/-- one step: the block's sign -/
theorem ix_block {h w : Nat} {bs : List (Nat × List (List Nat))} (r : IsRule h w bs) {t : Nat} (ht : t ∈ tls bs) {d : Nat × Nat} (h1 : d.1 < h) (h2 : d.2 < w) : ∃ x : List Nat, ixP [flP (blk bs t), .int d.1] = some (.str x) ∧ ixP [.str x, .int d.2] = some (sgP (stepF bs t d)) := by
  obtain ⟨_, a, b, e⟩ := step_in r ht h1 h2
  exact ⟨_, ix_fl a, by rw [ix_sn b, e]; rfl⟩
@[simp] theorem line_by_spec {h w t : Nat} {bs : List (Nat × List (List Nat))} {ds : List (Nat × Nat)} (ru : IsRule h w bs) (ht : t ∈ tls bs) (hd : DigOk h w ds) (hl : ds.length ≤ 1000) (k : Nat) : run2 PR (k + 2) 421 [.p (ruleP h w bs), .p (sgP t), .p (.lst (ds.map dgP))] = .ok (.m (.lst ((lineF bs t ds).map sgP))) [] := by
  rw [U_line_by]
  simp [ir_line_by]
  generalize hfor : forL2 _ _ _ _ = R0
  refine for2 hfor (fun i e => ∃ x y, e = [some (.p (ruleP h w bs)), some (.p (sgP t)), some (.p (.lst (ds.map dgP))), some (.m (.lst ((lineN bs t ds i).map sgP))), x, y]) (by simp) ⟨none, none, by simp [lineN, lastF]⟩ ?_ ?_
  · rintro i x hx e ⟨x, y, rfl⟩
    obtain ⟨d, hdi, rfl⟩ := map_get hx
    have hi := (List.getElem?_eq_some_iff.mp hdi).1
    have hdm := hd d (List.mem_of_getElem? hdi)
    have hin := last_in ru ht (ds := ds.take i) fun d hd' => hd d (List.mem_of_mem_take hd')
    obtain ⟨z, q1, q2⟩ := ix_block ru hin hdm.1 hdm.2
    have hll : (lineN bs t ds i).length < 16777216 := by simp [lineN]; omega
    rw [lineN_succ, last_take hdi]
    simp [foI, lineN_last, block_of_spec ru hin, q1, q2, hll]
  · rintro e' rfl ⟨x, y, rfl⟩
    simp [lineF, lineN]
def lettersL : List Nat := [97, 98, 99, 100, 101, 102, 103, 104, 105, 106, 107, 108, 109, 110, 111, 112, 113, 114, 115, 116, 117, 118, 119, 120, 121, 122]
theorem letters_cut : ∀ s, s < 27 → ∀ n, n < 27 → s + n ≤ 26 → (lettersL.drop s).take n = (List.range n).map (97 + s + ·) := by decide +kernel
theorem letters_slice {s n : Nat} (h : s + n ≤ 26) : ∃ ts : List Nat, sliceP [.str [97, 98, 99, 100, 101, 102, 103, 104, 105, 106, 107, 108, 109, 110, 111, 112, 113, 114, 115, 116, 117, 118, 119, 120, 121, 122], .int s, .int ((s : Int) + n)] = some (.str ts) ∧ ts.length = n ∧ ts.Pairwise (· < ·) ∧ ∀ c ∈ ts, 97 ≤ c ∧ c ≤ 122 := by
  refine ⟨(List.range n).map (97 + s + ·), ?_, by simp, ?_, ?_⟩
  · rw [← letters_cut s (by omega) n (by omega) h, slice_str]
    rfl
  · rw [List.pairwise_map]
    exact List.pairwise_lt_range.imp fun h => by omega
  · intro c hc
    simp only [List.mem_map, List.mem_range] at hc
    omega
theorem sizes_pick {v : Nat} (hv : v < 10) : ∃ h w : Nat, ixP [.lst [.tup [.int 2, .int 2], .tup [.int 1, .int 2], .tup [.int 2, .int 1], .tup [.int 2, .int 2], .tup [.int 1, .int 3], .tup [.int 2, .int 3], .tup [.int 3, .int 1], .tup [.int 3, .int 2], .tup [.int 4, .int 4], .tup [.int 2, .int 2]], .int v] = some (.tup [.int h, .int w]) ∧ 1 ≤ h ∧ h ≤ 4 ∧ 1 ≤ w ∧ w ≤ 4 ∧ 3 ≤ h + w := by
  obtain rfl | rfl | rfl | rfl | rfl | rfl | rfl | rfl | rfl | rfl : v = 0 ∨ v = 1 ∨ v = 2 ∨ v = 3 ∨ v = 4 ∨ v = 5 ∨ v = 6 ∨ v = 7 ∨ v = 8 ∨ v = 9 := by omega
  · exact ⟨2, 2, rfl, by decide⟩
  · exact ⟨1, 2, rfl, by decide⟩
  · exact ⟨2, 1, rfl, by decide⟩
  · exact ⟨2, 2, rfl, by decide⟩
  · exact ⟨1, 3, rfl, by decide⟩
  · exact ⟨2, 3, rfl, by decide⟩
  · exact ⟨3, 1, rfl, by decide⟩
  · exact ⟨3, 2, rfl, by decide⟩
  · exact ⟨4, 4, rfl, by decide⟩
  · exact ⟨2, 2, rfl, by decide⟩
theorem rule_k09_el {k most : Nat} {o : O} {r : Q2} (hr : run2 PR (k + 3) 343 [.m o, .p (.int most)] = r) (hp : IsPen o) (h0 : 0 < most) (h1 : most ≤ 26) : ∃ (h w : Nat) (bs : List (Nat × List (List Nat))) (o' : O), r = .ok (.p (ruleP h w bs)) [o'] ∧ IsPen o' ∧ IsRule h w bs ∧ bs.length ≤ most := by
  subst hr
  rw [U_law_rule_by_k09]
  simp [ir_law_rule_by_k09]
  generalize hr_v1 : run2 PR _ 111 _ = r_v1
  obtain ⟨v1, o1, rfl, p_o1, h_v1⟩ := draw_el hr_v1 (by assumption) (by omega) (by omega)
  clear hr_v1
  try simp [-Int.natCast_add, -Int.natCast_mul, -Int.natCast_ediv, -Int.natCast_emod, -Int.natCast_pow] 
  obtain ⟨h, w, e1, a1, a2, a3, a4, a5⟩ := sizes_pick (v := v1) (by omega)
  simp [e1]
  generalize hr_s : run2 PR _ 111 _ = r_s
  obtain ⟨s, o2, rfl, p_o2, h_s⟩ := draw_el hr_s (by assumption) (by omega) (by omega)
  clear hr_s
  try simp [-Int.natCast_add, -Int.natCast_mul, -Int.natCast_ediv, -Int.natCast_emod, -Int.natCast_pow] 
  generalize hr_n : run2 PR _ 111 _ = r_n
  obtain ⟨n, o3, rfl, p_o3, h_n⟩ := draw_el hr_n (by assumption) (by omega) (by omega)
  clear hr_n
  try simp [-Int.natCast_add, -Int.natCast_mul, -Int.natCast_ediv, -Int.natCast_emod, -Int.natCast_pow] 
  have e2 : ((s + 1 + n : Nat) : Int) = s + ((n + 1 : Nat) : Int) := by omega
  obtain ⟨ts, e3, tl, tsrt, tlow⟩ := letters_slice (s := s) (n := n + 1) (by omega)
  simp only [e2]
  simp [-Int.natCast_add, -Int.natCast_mul, -Int.natCast_ediv, -Int.natCast_emod, -Int.natCast_pow, e3]
  generalize hr_a : run2 PR _ 111 _ = r_a
  obtain ⟨a, o4, rfl, p_o4, h_a⟩ := draw_el hr_a (by assumption) (by omega) (by omega)
  clear hr_a
  try simp [-Int.natCast_add, -Int.natCast_mul, -Int.natCast_ediv, -Int.natCast_emod, -Int.natCast_pow] 
  obtain ⟨al, hal, hal1, hal3⟩ : ∃ al : Nat, 1 + a = al ∧ 1 ≤ al ∧ al ≤ 3 := ⟨1 + a, rfl, by omega, by omega⟩
  simp only [hal]
  generalize hfor1 : forL2 _ _ _ _ = R1
  obtain ⟨I1, hI1⟩ : ∃ I : Nat → E2 → Prop, ∀ i e, I i e ↔ (∃ (o : O) (bs : List (Nat × List (List Nat))) (y z u v : Option V), e = [some (.m o), some (.p (.int most)), some (.p (.str lettersL)), some (.p (.int h)), some (.p (.int w)), some (.p (.int s)), some (.p (.str ts)), some (.p (.int al)), some (.m (.lst (bs.map blockP))), y, z, u, v, none, none] ∧ IsPen o ∧ tls bs = ts.take i ∧ ∀ b ∈ bs, IsFl ts b.2 h w) := ⟨_, fun _ _ => Iff.rfl⟩
  refine for2 hfor1 I1 (by intro n e he; first | (simp; done) | (replace he := (hI1 _ _).mp he; (repeat (obtain ⟨_, he⟩ := he)); subst_vars; simp)) ?_ ?_ ?_
  · refine (hI1 _ _).mpr ⟨o4, [], none, none, none, none, rfl, by assumption, rfl, by simp⟩
  · intro i x hx e he
    obtain ⟨o, bs, y, z, u, v, rfl, po, hb, hfl⟩ := (hI1 _ _).mp he
    clear he
    obtain ⟨t, hti, rfl⟩ := map_get hx
    obtain ⟨hit, rfl⟩ := List.getElem?_eq_some_iff.mp hti
    simp [foI, range_nat (n := h) (by omega)]
    generalize hfor2 : forL2 _ _ _ _ = R2
    obtain ⟨I2, hI2⟩ : ∃ I : Nat → E2 → Prop, ∀ j e, I j e ↔ (∃ (o : O) (rows : List (List Nat)) (u v : Option V), e = [some (.m o), some (.p (.int most)), some (.p (.str lettersL)), some (.p (.int h)), some (.p (.int w)), some (.p (.int s)), some (.p (.str ts)), some (.p (.int al)), some (.m (.lst (bs.map blockP))), some (.p (sgP ts[i])), some (.m (.lst (rows.map .str))), u, v, none, none] ∧ IsPen o ∧ IsFl ts rows j w) := ⟨_, fun _ _ => Iff.rfl⟩
    refine for2 hfor2 I2 (by intro n e he; first | (simp; done) | (replace he := (hI2 _ _).mp he; (repeat (obtain ⟨_, he⟩ := he)); subst_vars; simp)) ?_ ?_ ?_
    · refine (hI2 _ _).mpr ⟨o, [], u, v, rfl, po, rfl, by simp, by simp⟩
    · intro j x hx e he
      obtain ⟨o, rows, u, v, rfl, po, fl⟩ := (hI2 _ _).mp he
      clear he
      obtain ⟨rfl, hj⟩ := nat_get hx
      simp [foI, range_nat (n := w) (by omega)]
      generalize hfor3 : compL2 _ _ _ _ = R3
      obtain ⟨I3, hI3⟩ : ∃ I : Nat → List P → E2 → Prop, ∀ n ys e, I n ys e ↔ (∃ (o : O) (xs : List Nat), ys = xs.map sgP ∧ xs.length = n ∧ (∀ c ∈ xs, c ∈ ts) ∧ IsPen o ∧ e = [some (.m o), some (.p (.int most)), some (.p (.str lettersL)), some (.p (.int h)), some (.p (.int w)), some (.p (.int s)), some (.p (.str ts)), some (.p (.int al)), some (.m (.lst (bs.map blockP))), some (.p (sgP ts[i])), some (.m (.lst (rows.map .str))), some (.p (.int j)), v, none, none]) := ⟨_, fun _ _ _ => Iff.rfl⟩
      refine comp2 hfor3 I3 (by intro n ys e he; first | (simp; done) | (replace he := (hI3 _ _ _).mp he; (repeat (obtain ⟨_, he⟩ := he)); subst_vars; simp)) ?_ ?_ ?_
      · refine (hI3 _ _ _).mpr ⟨o, [], rfl, rfl, by simp, po, rfl⟩
      · intro m x hx zs e he
        obtain ⟨o, xs, rfl, rfl, hin, po, rfl⟩ := (hI3 _ _ _).mp he
        clear he
        obtain ⟨rfl, hm⟩ := nat_get hx
        simp [cpI]
        generalize hr_v : run2 PR _ 111 _ = r_v
        obtain ⟨v, o2, rfl, p_o2, h_v⟩ := draw_el hr_v (by assumption) (by omega) (by omega)
        clear hr_v
        try simp [-Int.natCast_add, -Int.natCast_mul, -Int.natCast_ediv, -Int.natCast_emod, -Int.natCast_pow] 
        have hv : v / al < ts.length := Nat.lt_of_le_of_lt (Nat.div_le_self _ _) (by omega)
        simp [-Int.natCast_ediv, fdiv_pow hal1 (show al ≤ 4 by omega), ix_sn hv]
        refine (hI3 _ _ _).mpr ⟨o2, xs ++ [ts[v / al]], by simp [sgP], by simp, ?_, by assumption, rfl⟩
        intro c hc
        rcases List.mem_append.mp hc with h | h
        · exact hin c h
        · rw [List.mem_singleton.mp h]
          exact List.getElem_mem _
      · intro zs e he0 he
        obtain ⟨o, xs, rfl, hl, hin, po, rfl⟩ := (hI3 _ _ _).mp he
        subst he0
        clear he
        have hr := fl.n
        simp at hl
        simp [join_sg (xs := xs) (by omega), (show rows.length < 16777216 by omega)]
        refine (hI2 _ _).mpr ⟨o, rows ++ [xs], _, _, by simp; exact ⟨rfl, rfl⟩, po, by simp [hr], ?_, ?_⟩
        · intro r hr
          rcases List.mem_append.mp hr with h | h
          · exact fl.w r h
          · rw [List.mem_singleton.mp h, hl]
        · intro r hr
          rcases List.mem_append.mp hr with h | h
          · exact fl.cs r h
          · rw [List.mem_singleton.mp h]
            exact hin
    · intro e he0 he
      obtain ⟨o, rows, u, v, rfl, po, fl⟩ := (hI2 _ _).mp he
      subst he0
      clear he
      have hbl : bs.length < 16777216 := by
        have := congrArg List.length hb
        simp [tls] at this
        omega
      simp at fl
      simp [hbl]
      refine (hI1 _ _).mpr ⟨o, bs ++ [(ts[i], rows)], _, _, _, _, by simp [blockP, flP]; exact ⟨rfl, rfl, rfl, rfl⟩, po, ?_, ?_⟩
      · rw [List.take_succ_eq_append_getElem hit, ← hb]
        simp [tls]
      · intro b hb'
        rcases List.mem_append.mp hb' with h | h
        · exact hfl b h
        · rw [List.mem_singleton.mp h]
          exact fl
  · intro e he0 he
    obtain ⟨o, bs, y, z, u, v, rfl, po, hb, hfl⟩ := (hI1 _ _).mp he
    subst he0
    clear he
    rw [List.length_map, List.take_length] at hb
    have hbn : bs.length = n + 1 := by
      have := congrArg List.length hb
      simp [tls] at this
      omega
    have mk : ∀ bs' : List (Nat × List (List Nat)), tls bs' = ts → (∀ b ∈ bs', IsFl ts b.2 h w) → IsRule h w bs' ∧ bs'.length ≤ most := by
      intro bs' hb' hfl'
      have hl : bs'.length = n + 1 := by
        have := congrArg List.length hb'
        simp [tls] at this
        omega
      refine ⟨⟨a1, a2, a3, a4, a5, ?_, by rw [hb']; exact tsrt, ?_, by rw [hb']; exact hfl', by omega⟩, by omega⟩
      · rintro rfl
        simp at hl
      · intro b hb
        exact tlow b.1 (by rw [← hb']; exact List.mem_map.mpr ⟨b, hb, rfl⟩)
    simp
    generalize hr_d : run2 PR _ 111 _ = r_d
    obtain ⟨d, o5, rfl, p_o5, h_d⟩ := draw_el hr_d (by assumption) (by omega) (by omega)
    clear hr_d
    try simp [-Int.natCast_add, -Int.natCast_mul, -Int.natCast_ediv, -Int.natCast_emod, -Int.natCast_pow] 
    by_cases hd : d = 0
    · match bs, hb, hbn, hfl with
      | (t, bk) :: rest, hb, hbn, hfl =>
        have f := hfl (t, bk) List.mem_cons_self
        have fn := f.n
        match bk, f, fn with
        | [], f, fn => simp at fn; omega
        | r0 :: rr, f, fn =>
          have fw := f.w r0 List.mem_cons_self
          match r0, f, fw with
          | [], f, fw => simp at fw; omega
          | c0 :: cr, f, fw =>
            have ad : addP [sgP t, .str cr] = some (.str (t :: cr)) := by
              rw [sgP, add_str (by simp at fw ⊢; omega)]
              rfl
            have ad2 : addP [.tup [.str (t :: cr)], .tup (rr.map .str)] = some (flP ((t :: cr) :: rr)) := by
              rw [add_tup (by simp at fn ⊢; omega) (by rfl)]
              rfl
            have f' : IsFl ts ((t :: cr) :: rr) h w := by
              refine ⟨by simpa using fn, ?_, ?_⟩
              · intro r hr
                rcases List.mem_cons.mp hr with rfl | hr
                · simpa using fw
                · exact f.w r (List.mem_cons_of_mem _ hr)
              · intro r hr c hc
                rcases List.mem_cons.mp hr with rfl | hr
                · rcases List.mem_cons.mp hc with rfl | hc
                  · rw [← hb]
                    simp [tls]
                  · exact f.cs _ List.mem_cons_self c (List.mem_cons_of_mem _ hc)
                · exact f.cs r (List.mem_cons_of_mem _ hr) c hc
            obtain ⟨g1, g2⟩ := mk ((t, (t :: cr) :: rr) :: rest) (by rw [← hb]; rfl) (by
              intro b hb'
              rcases List.mem_cons.mp hb' with rfl | hb'
              · exact f'
              · exact hfl b (List.mem_cons_of_mem _ hb'))
            have sl : sliceP [.str (c0 :: cr), .int 1, .non] = some (.str cr) := slice_strE (c0 :: cr) 1
            have sl2 : sliceP [.tup (.str (c0 :: cr) :: rr.map .str), .int 1, .non] = some (.tup (rr.map .str)) := slice_tupE (.str (c0 :: cr) :: rr.map .str) 1 (np_strs ((c0 :: cr) :: rr))
            simp [hd, flP, sl, sl2, ad, setM, ixN', ad2]
            exact ⟨h, w, (t, (t :: cr) :: rr) :: rest, _, ⟨rfl, rfl⟩, by assumption, g1, g2⟩
    · obtain ⟨g1, g2⟩ := mk bs hb hfl
      simp [hd]
      exact ⟨h, w, bs, _, ⟨rfl, rfl⟩, by assumption, g1, g2⟩
/-! ### a rule's dict -/
theorem putP_new {k v : P} {acc : List (P × P)} (h : ∀ q ∈ acc, q.1 ≠ k) : putP k v acc = acc ++ [(k, v)] := by
  unfold putP
  rw [if_neg]
  simp only [List.any_eq_true, decide_eq_true_eq, not_exists, not_and]
  exact fun q hq e => h q hq e
theorem mkDict_new : ∀ (ps acc : List (P × P)), (∀ q ∈ acc, ∀ r ∈ ps, q.1 ≠ r.1) → (ps.map (·.1)).Nodup → ps.foldl (fun acc p => putP p.1 p.2 acc) acc = acc ++ ps
  | [], acc, _, _ => by simp
  | p :: r, acc, h, hn => by
    rw [List.map_cons, List.nodup_cons] at hn
    rw [List.foldl_cons, putP_new fun q hq => h q hq p List.mem_cons_self, mkDict_new r (acc ++ [(p.1, p.2)]) ?_ hn.2, List.append_assoc]
    · rfl
    · intro q hq s hs
      rcases List.mem_append.mp hq with hq | hq
      · exact h q hq s (List.mem_cons_of_mem _ hs)
      · rw [List.mem_singleton.mp hq]
        rintro e
        exact hn.1 (by rw [show p.1 = s.1 from e]; exact List.mem_map.mpr ⟨s, hs, rfl⟩)
theorem pairsP_map {α : Type} {emb : α → P} {f : α → P × P} (h : ∀ a, pairP2 (emb a) = some (f a)) : ∀ xs : List α, pairsP (xs.map emb) = some (xs.map f)
  | [] => rfl
  | x :: r => by simp [pairsP, h, pairsP_map h r]
theorem sgP_inj {a b : Nat} (h : sgP a = sgP b) : a = b := by
  simp only [sgP, P.str.injEq, List.cons.injEq, and_true] at h
  exact h
theorem IsRule.nodup {h w : Nat} {bs : List (Nat × List (List Nat))} (r : IsRule h w bs) : (tls bs).Nodup := r.srt.imp fun h => by omega
theorem dict_rule {h w : Nat} {bs : List (Nat × List (List Nat))} (r : IsRule h w bs) : dictP [.tup (bs.map blockP)] = some (.dic ((tls bs).map sgP) (bs.map fun b => flP b.2)) := by
  have hp : isPairs (bs.map blockP) = true := by
    match bs, r.ne with
    | b :: r, _ =>
      simp only [List.map_cons, isPairs, Bool.and_eq_true]
      exact ⟨rfl, List.all_eq_true.mpr fun x hx => by
        obtain ⟨b, _, rfl⟩ := List.mem_map.mp hx
        rfl⟩
  simp only [dictP]
  rw [if_pos hp, pairsP_map (f := fun b => (sgP b.1, flP b.2)) (fun b => rfl)]
  have hn : ((bs.map fun b => (sgP b.1, flP b.2)).map (·.1)).Nodup := by
    rw [List.map_map]
    have := r.nodup
    rw [tls] at this
    rw [show ((fun x : P × P => x.1) ∘ fun b : Nat × List (List Nat) => (sgP b.1, flP b.2)) = sgP ∘ fun b => b.1 from rfl, ← List.map_map]
    exact List.pairwise_map.mpr (this.imp fun hne z => hne (sgP_inj z))
  simp only [Option.map_some, mkDict, mkDict_new _ [] (by simp) hn, dicOf, List.nil_append, List.map_map, tls]
  rfl
theorem look_map {α : Type} {f : α → Nat} {g : α → P} {t : Nat} : ∀ xs : List α, lookP (sgP t) (xs.map fun a => sgP (f a)) (xs.map g) = (xs.find? fun a => f a == t).map g
  | [] => rfl
  | x :: r => by
    simp only [List.map_cons, lookP, List.find?_cons]
    by_cases h : f x = t
    · simp [h]
    · have : ¬ sgP (f x) = sgP t := fun z => h (sgP_inj z)
      have h' : (f x == t) = false := by simpa using h
      simp [h', this, look_map r]
theorem ixQ_rule {h w : Nat} {bs : List (Nat × List (List Nat))} (r : IsRule h w bs) {t : Nat} (ht : t ∈ tls bs) : ixQ [.dic ((tls bs).map sgP) (bs.map fun b => flP b.2), sgP t] = some (flP (blk bs t)) := by
  obtain ⟨b, hf, hb, hbt, hbl⟩ := r.find ht
  show (if isKeyP (sgP t) then lookP _ _ _ else none) = _
  rw [if_pos (show isKeyP (sgP t) = true from rfl), tls, List.map_map]
  have := look_map (f := fun b : Nat × List (List Nat) => b.1) (g := fun b => flP b.2) (t := t) bs
  rw [show (sgP ∘ fun b : Nat × List (List Nat) => b.1) = fun a => sgP a.1 from rfl, this, hf, hbl]
  rfl
@[simp] theorem isi_dg (T : String) (d : Nat × Nat) : isiP T [dgP d] = some (.bl (decide (T = "tuple"))) := rfl
@[simp] theorem len_dg (d : Nat × Nat) : lenQ [dgP d] = some (.int 2) := rfl
@[simp] theorem ix_dg0 (d : Nat × Nat) : ixP [dgP d, .int 0] = some (.int d.1) := by simp [dgP]
@[simp] theorem ix_dg1 (d : Nat × Nat) : ixP [dgP d, .int 1] = some (.int d.2) := by simp [dgP]
@[simp] theorem eq_t2 (a b c d : Int) : eqP [.tup [.int a, .int b], .tup [.int c, .int d]] = some (.bl (decide (a = c) && decide (b = d))) := by simp [eqP, P.shp, P.shps, P.eqv, P.eqvs]
@[simp] theorem ne_t2 (a b c d : Int) : neP [.tup [.int a, .int b], .tup [.int c, .int d]] = some (.bl !(decide (a = c) && decide (b = d))) := by simp [neP, P.shp, P.shps, P.eqv, P.eqvs]
mutual
theorem eqv_self : ∀ (n : Nat) (x : P), x.shp n = true → P.eqv x x = true
  | n, .non, h => by simp [P.eqv]
  | n, .bl b, h => by simp [P.eqv]
  | n, .int i, h => by simp [P.eqv]
  | n, .str x, h => by simp [P.eqv]
  | 0, .tup xs, h => by simp [P.shp] at h
  | 0, .lst xs, h => by simp [P.shp] at h
  | n + 1, .tup xs, h => by
    simp only [P.shp] at h
    simp only [P.eqv]
    exact eqvs_self n xs h
  | n + 1, .lst xs, h => by
    simp only [P.shp] at h
    simp only [P.eqv]
    exact eqvs_self n xs h
  | n, .dic _ _, h => by cases n <;> simp [P.shp] at h
  | n, .scr _, h => by cases n <;> simp [P.shp] at h
theorem eqvs_self : ∀ (n : Nat) (xs : List P), P.shps n xs = true → P.eqvs xs xs = true
  | n, [], h => by simp [P.eqvs]
  | n, x :: r, h => by
    simp only [P.shps, Bool.and_eq_true] at h
    simp only [P.eqvs, eqv_self n x h.1, eqvs_self n r h.2, Bool.and_self]
end
theorem eq_same {x : P} (h : x.shp 60 = true) : eqP [x, x] = some (.bl true) := by simp [eqP, h, eqv_self 60 x h]
theorem ne_same {x : P} (h : x.shp 60 = true) : neP [x, x] = some (.bl false) := by simp [neP, h, eqv_self 60 x h]
theorem shps_map {α : Type} {f : α → P} {n : Nat} (h : ∀ a, P.shp n (f a) = true) : ∀ xs : List α, P.shps n (xs.map f) = true
  | [] => by simp [P.shps]
  | x :: r => by simp [P.shps, h, shps_map h r]
theorem ne_lmap {α : Type} {f : α → P} (h : ∀ a, P.shp 59 (f a) = true) (xs : List α) : neP [.lst (xs.map f), .lst (xs.map f)] = some (.bl false) := ne_same (by simp only [P.shp, shps_map h])
theorem eq_lmap {α : Type} {f : α → P} (h : ∀ a, P.shp 59 (f a) = true) (xs : List α) : eqP [.lst (xs.map f), .lst (xs.map f)] = some (.bl true) := eq_same (by simp only [P.shp, shps_map h])
theorem shp_sg (n a : Nat) : P.shp n (sgP a) = true := by cases n <;> rfl
theorem shp_dg (a : Nat × Nat) : P.shp 59 (dgP a) = true := by simp [dgP, P.shp, P.shps]
def chO : Option P → Option Bool
  | some (.bl b) => some b
  | _ => none
@[simp] theorem chB_e (f : List P → Option P) (x y : P) : chB f x y = chO (f [x, y]) := rfl
@[simp] theorem chO_b (b : Bool) : chO (some (.bl b)) = some b := rfl
@[simp] theorem chainB_b (g : P → P → Option Bool) (k : E2 → R2 D2) (y : P) (e : E2) (b : Bool) : chainB g k y e (some b) = if b then chainE g y (k e) else .ok (.p (.bl false)) e := by cases b <;> rfl
theorem digs_get {h w g r c i : Nat} (hi : i < g) : (digs h w g r c)[i]? = some (r / h ^ (g - 1 - i) % h, c / w ^ (g - 1 - i) % w) := by
  rw [digs, List.getElem?_reverse (by simpa using hi), List.length_map, List.length_range, List.getElem?_map, List.getElem?_range (by omega)]
  rfl
@[simp] theorem digits_good_spec {h w : Nat} {bs : List (Nat × List (List Nat))} {ds : List (Nat × Nat)} (hd : DigOk h w ds) (k : Nat) : run2 PR (k + 2) 41 [.p (ruleP h w bs), .p (.lst (ds.map dgP))] = .ok (.p (.bl true)) [] := by
  rw [U_digits_good]
  simp [ir_digits_good]
  generalize hfor1 : forL2 _ _ _ _ = R1
  obtain ⟨I1, hI1⟩ : ∃ I : Nat → E2 → Prop, ∀ i e, I i e ↔ (∃ x, e = [some (.p (ruleP h w bs)), some (.p (.lst (ds.map dgP))), x]) := ⟨_, fun _ _ => Iff.rfl⟩
  refine for2 hfor1 I1 (by intro n e he; first | (simp; done) | (replace he := (hI1 _ _).mp he; (repeat (obtain ⟨_, he⟩ := he)); subst_vars; simp)) ?_ ?_ ?_
  · refine (hI1 _ _).mpr ⟨none, rfl⟩
  · intro i x hx e he
    obtain ⟨x, rfl⟩ := (hI1 _ _).mp he
    clear he
    obtain ⟨d, hdi, rfl⟩ := map_get hx
    have hdm := hd d (List.mem_of_getElem? hdi)
    simp [-Int.natCast_add, -Int.natCast_mul, -Int.natCast_ediv, -Int.natCast_emod, -Int.natCast_pow, foI, hdm]
    refine (hI1 _ _).mpr ⟨_, rfl⟩
  · intro e he0 he
    obtain ⟨x, rfl⟩ := (hI1 _ _).mp he
    subst he0
    clear he
    simp
@[simp] theorem digits_good_spec_m {h w : Nat} {bs : List (Nat × List (List Nat))} {ds : List (Nat × Nat)} (hd : DigOk h w ds) (k : Nat) : run2 PR (k + 2) 41 [.p (ruleP h w bs), .m (.lst (ds.map dgP))] = .ok (.p (.bl true)) [.lst (ds.map dgP)] := by
  rw [U_digits_good]
  simp [ir_digits_good]
  generalize hfor1 : forL2 _ _ _ _ = R1
  obtain ⟨I1, hI1⟩ : ∃ I : Nat → E2 → Prop, ∀ i e, I i e ↔ (∃ x, e = [some (.p (ruleP h w bs)), some (.m (.lst (ds.map dgP))), x]) := ⟨_, fun _ _ => Iff.rfl⟩
  refine for2 hfor1 I1 (by intro n e he; first | (simp; done) | (replace he := (hI1 _ _).mp he; (repeat (obtain ⟨_, he⟩ := he)); subst_vars; simp)) ?_ ?_ ?_
  · refine (hI1 _ _).mpr ⟨none, rfl⟩
  · intro i x hx e he
    obtain ⟨x, rfl⟩ := (hI1 _ _).mp he
    clear he
    obtain ⟨d, hdi, rfl⟩ := map_get hx
    have hdm := hd d (List.mem_of_getElem? hdi)
    simp [-Int.natCast_add, -Int.natCast_mul, -Int.natCast_ediv, -Int.natCast_emod, -Int.natCast_pow, foI, hdm]
    refine (hI1 _ _).mpr ⟨_, rfl⟩
  · intro e he0 he
    obtain ⟨x, rfl⟩ := (hI1 _ _).mp he
    subst he0
    clear he
    simp
@[simp] theorem place_far_spec {h w g r c : Nat} {bs : List (Nat × List (List Nat))} (ru : IsRule h w bs) (hg : g ≤ 60) (hr : r < h ^ g) (hc : c < w ^ g) (k : Nat) : run2 PR (k + 3) 447 [.p (ruleP h w bs), .p (.lst ((digs h w g r c).map dgP))] = .ok (.p (.tup [.int r, .int c])) [] := by
  have hg' : ¬ (60 < (g : Int)) := by omega
  have mb : ∀ {p b q : Nat}, b ≤ 4 → p < b ^ g → mulP [.int (((p / q : Nat) : Nat) : Int), .int b] = some (.int ((p / q * b : Nat) : Int)) := by
    intro p b q hb hp
    have h1 := pow_small (b := b) (n := g) hb (by omega)
    have h2 : p / q ≤ p := Nat.div_le_self _ _
    have h4 : b < 2 ^ 4000 := Nat.lt_of_lt_of_le (by omega : b < 2 ^ 3) (Nat.pow_le_pow_right (by decide) (by decide))
    generalize p / q = z at h2 ⊢
    rw [mul_big (by omega) (by omega)]
    simp
  have step : ∀ {p b i : Nat}, i < g → p / b ^ (g - i) * b + p / b ^ (g - 1 - i) % b = p / b ^ (g - (i + 1)) := by
    intro p b i hi
    have e1 : g - i = (g - 1 - i) + 1 := by omega
    have e2 : g - (i + 1) = g - 1 - i := by omega
    rw [e1, e2, Nat.pow_succ, ← Nat.div_div_eq_div_mul]
    have := Nat.div_add_mod (p / b ^ (g - 1 - i)) b
    rw [Nat.mul_comm] at this
    exact this
  rw [U_place_far]
  simp [-Int.natCast_add, -Int.natCast_mul, -Int.natCast_ediv, -Int.natCast_emod, -Int.natCast_pow, ir_place_far, digits_good_spec (digs_ok g r c ru.h1 ru.w1), hg']
  generalize hfor1 : forL2 _ _ _ _ = R1
  obtain ⟨I1, hI1⟩ : ∃ I : Nat → E2 → Prop, ∀ i e, I i e ↔ (∃ x y, e = [some (.p (ruleP h w bs)), some (.p (.lst ((digs h w g r c).map dgP))), some (.p (.int ((r / h ^ (g - i) : Nat) : Int))), some (.p (.int ((c / w ^ (g - i) : Nat) : Int))), x, y]) := ⟨_, fun _ _ => Iff.rfl⟩
  refine for2 hfor1 I1 (by intro n e he; first | (simp; done) | (replace he := (hI1 _ _).mp he; (repeat (obtain ⟨_, he⟩ := he)); subst_vars; simp)) ?_ ?_ ?_
  · refine (hI1 _ _).mpr ⟨none, none, by rw [Nat.sub_zero, Nat.div_eq_of_lt hr, Nat.div_eq_of_lt hc]; rfl⟩
  · intro i x hx e he
    obtain ⟨x, y, rfl⟩ := (hI1 _ _).mp he
    clear he
    obtain ⟨d, hdi, rfl⟩ := map_get hx
    have hi : i < g := by simpa using (List.getElem?_eq_some_iff.mp hdi).1
    rw [digs_get hi] at hdi
    cases hdi
    simp [-Int.natCast_add, -Int.natCast_mul, -Int.natCast_ediv, -Int.natCast_emod, -Int.natCast_pow, foI, mb ru.h4 hr, mb ru.w4 hc, step hi]
    refine (hI1 _ _).mpr ⟨_, _, rfl⟩
  · intro e he0 he
    obtain ⟨x, y, rfl⟩ := (hI1 _ _).mp he
    subst he0
    clear he
    simp
@[simp] theorem place_far_spec_m {h w g r c : Nat} {bs : List (Nat × List (List Nat))} (ru : IsRule h w bs) (hg : g ≤ 60) (hr : r < h ^ g) (hc : c < w ^ g) (k : Nat) : run2 PR (k + 3) 447 [.p (ruleP h w bs), .m (.lst ((digs h w g r c).map dgP))] = .ok (.p (.tup [.int r, .int c])) [.lst ((digs h w g r c).map dgP)] := by
  have hg' : ¬ (60 < (g : Int)) := by omega
  have mb : ∀ {p b q : Nat}, b ≤ 4 → p < b ^ g → mulP [.int (((p / q : Nat) : Nat) : Int), .int b] = some (.int ((p / q * b : Nat) : Int)) := by
    intro p b q hb hp
    have h1 := pow_small (b := b) (n := g) hb (by omega)
    have h2 : p / q ≤ p := Nat.div_le_self _ _
    have h4 : b < 2 ^ 4000 := Nat.lt_of_lt_of_le (by omega : b < 2 ^ 3) (Nat.pow_le_pow_right (by decide) (by decide))
    generalize p / q = z at h2 ⊢
    rw [mul_big (by omega) (by omega)]
    simp
  have step : ∀ {p b i : Nat}, i < g → p / b ^ (g - i) * b + p / b ^ (g - 1 - i) % b = p / b ^ (g - (i + 1)) := by
    intro p b i hi
    have e1 : g - i = (g - 1 - i) + 1 := by omega
    have e2 : g - (i + 1) = g - 1 - i := by omega
    rw [e1, e2, Nat.pow_succ, ← Nat.div_div_eq_div_mul]
    have := Nat.div_add_mod (p / b ^ (g - 1 - i)) b
    rw [Nat.mul_comm] at this
    exact this
  rw [U_place_far]
  simp [-Int.natCast_add, -Int.natCast_mul, -Int.natCast_ediv, -Int.natCast_emod, -Int.natCast_pow, ir_place_far, digits_good_spec_m (digs_ok g r c ru.h1 ru.w1), hg']
  generalize hfor1 : forL2 _ _ _ _ = R1
  obtain ⟨I1, hI1⟩ : ∃ I : Nat → E2 → Prop, ∀ i e, I i e ↔ (∃ x y, e = [some (.p (ruleP h w bs)), some (.m (.lst ((digs h w g r c).map dgP))), some (.p (.int ((r / h ^ (g - i) : Nat) : Int))), some (.p (.int ((c / w ^ (g - i) : Nat) : Int))), x, y]) := ⟨_, fun _ _ => Iff.rfl⟩
  refine for2 hfor1 I1 (by intro n e he; first | (simp; done) | (replace he := (hI1 _ _).mp he; (repeat (obtain ⟨_, he⟩ := he)); subst_vars; simp)) ?_ ?_ ?_
  · refine (hI1 _ _).mpr ⟨none, none, by rw [Nat.sub_zero, Nat.div_eq_of_lt hr, Nat.div_eq_of_lt hc]; rfl⟩
  · intro i x hx e he
    obtain ⟨x, y, rfl⟩ := (hI1 _ _).mp he
    clear he
    obtain ⟨d, hdi, rfl⟩ := map_get hx
    have hi : i < g := by simpa using (List.getElem?_eq_some_iff.mp hdi).1
    rw [digs_get hi] at hdi
    cases hdi
    simp [-Int.natCast_add, -Int.natCast_mul, -Int.natCast_ediv, -Int.natCast_emod, -Int.natCast_pow, foI, mb ru.h4 hr, mb ru.w4 hc, step hi]
    refine (hI1 _ _).mpr ⟨_, _, rfl⟩
  · intro e he0 he
    obtain ⟨x, y, rfl⟩ := (hI1 _ _).mp he
    subst he0
    clear he
    simp
/-! ### growing -/
theorem range_flat {α : Type} (F : Nat → Nat → α) (h : Nat) (h0 : 0 < h) : ∀ H : Nat, (List.range H).flatMap (fun i => (List.range h).map (F i)) = (List.range (H * h)).map fun n => F (n / h) (n % h)
  | 0 => by simp
  | H + 1 => by
    rw [List.range_succ, List.flatMap_append, range_flat F h h0 H, Nat.add_mul, Nat.one_mul, List.range_add, List.map_append, List.map_map]
    congr 1
    simp only [List.flatMap_cons, List.flatMap_nil, List.append_nil]
    refine List.map_congr_left fun i hi => ?_
    have := List.mem_range.mp hi
    simp only [Function.comp_def]
    rw [Nat.add_comm, Nat.add_mul_div_right _ _ h0, Nat.div_eq_of_lt this, Nat.add_mul_mod_self_right, Nat.mod_eq_of_lt this, Nat.zero_add]
theorem list_getD {α : Type} (d : α) (xs : List α) : xs = (List.range xs.length).map fun m => xs.getD m d := by
  apply List.ext_getElem
  · simp
  · intro i h1 h2
    simp [h1]
def growRow (bs : List (Nat × List (List Nat))) (row : List Nat) (l : Nat) : List Nat := row.flatMap fun t => (blk bs t).getD l []
def rowB (bs : List (Nat × List (List Nat))) (l t : Nat) : List Nat := (blk bs t).getD l []
def growF (h : Nat) (bs : List (Nat × List (List Nat))) (fl : List (List Nat)) : List (List Nat) := fl.flatMap fun row => (List.range h).map (growRow bs row)
def growN (h : Nat) (bs : List (Nat × List (List Nat))) : Nat → List (List Nat) → List (List Nat)
  | 0, fl => fl
  | n + 1, fl => growF h bs (growN h bs n fl)
theorem digs_succ (h w g r c : Nat) : digs h w (g + 1) r c = digs h w g (r / h) (c / w) ++ [(r % h, c % w)] := by
  simp only [digs, List.range_succ_eq_map, List.map_cons, List.reverse_cons, Nat.pow_zero, Nat.div_one, List.map_map]
  congr 2
  refine List.map_congr_left fun i _ => ?_
  simp only [Function.comp_def, Nat.succ_eq_add_one]
  rw [Nat.pow_succ, Nat.pow_succ, Nat.mul_comm (h ^ i), Nat.mul_comm (w ^ i), Nat.div_div_eq_div_mul, Nat.div_div_eq_div_mul]
theorem last_app (bs : List (Nat × List (List Nat))) (t : Nat) (ds es : List (Nat × Nat)) : lastF bs t (ds ++ es) = lastF bs (lastF bs t ds) es := by simp [lastF, List.foldl_append]
theorem far_succ (h w : Nat) (bs : List (Nat × List (List Nat))) (t g r c : Nat) : farT h w bs t (g + 1) r c = stepF bs (farT h w bs t g (r / h) (c / w)) (r % h, c % w) := by
  simp only [farT, digs_succ, last_app]
  rfl
theorem growRow_far {h w : Nat} {bs : List (Nat × List (List Nat))} (ru : IsRule h w bs) {t : Nat} (ht : t ∈ tls bs) (g r W l : Nat) (hl : l < h) : growRow bs ((List.range W).map fun j => farT h w bs t g r j) l = (List.range (W * w)).map fun m => stepF bs (farT h w bs t g r (m / w)) (l, m % w) := by
  unfold growRow
  rw [List.flatMap_map, ← range_flat (fun j m => stepF bs (farT h w bs t g r j) (l, m)) w ru.w1 W]
  congr 1
  funext j
  have hin : farT h w bs t g r j ∈ tls bs := last_in ru ht (digs_ok g r j ru.h1 ru.w1)
  have f := ru.blk hin
  have hl' : l < (blk bs (farT h w bs t g r j)).length := by rw [f.n]; exact hl
  have hlen : ((blk bs (farT h w bs t g r j)).getD l []).length = w := by
    rw [List.getD_eq_getElem?_getD, List.getElem?_eq_getElem hl', Option.getD_some]
    exact f.w _ (List.getElem_mem hl')
  rw [list_getD 0 ((blk bs (farT h w bs t g r j)).getD l []), hlen]
  rfl
theorem grow_far {h w : Nat} {bs : List (Nat × List (List Nat))} (ru : IsRule h w bs) {t : Nat} (ht : t ∈ tls bs) (g H W : Nat) : growF h bs (cutFar h w bs t g 0 0 H W) = cutFar h w bs t (g + 1) 0 0 (H * h) (W * w) := by
  simp only [growF, cutFar, Nat.zero_add, List.flatMap_map]
  have e : ∀ i, (List.range h).map (growRow bs ((List.range W).map fun j => farT h w bs t g i j)) = (List.range h).map fun l => (List.range (W * w)).map fun m => stepF bs (farT h w bs t g i (m / w)) (l, m % w) := fun i => List.map_congr_left fun l hl => growRow_far ru ht g i W l (List.mem_range.mp hl)
  simp only [e]
  rw [range_flat (fun i l => (List.range (W * w)).map fun m => stepF bs (farT h w bs t g i (m / w)) (l, m % w)) h ru.h1 H]
  refine List.map_congr_left fun n _ => List.map_congr_left fun m _ => ?_
  rw [far_succ]
theorem growN_far {h w : Nat} {bs : List (Nat × List (List Nat))} (ru : IsRule h w bs) {t : Nat} (ht : t ∈ tls bs) : ∀ g, growN h bs g [[t]] = cutFar h w bs t g 0 0 (h ^ g) (w ^ g)
  | 0 => by simp [growN, cutFar, farT, digs, lastF]
  | g + 1 => by rw [growN, growN_far ru ht g, grow_far ru ht, Nat.pow_succ, Nat.pow_succ]
theorem growF_fl {h w : Nat} {bs : List (Nat × List (List Nat))} (ru : IsRule h w bs) {fl : List (List Nat)} {n m : Nat} (f : IsFl (tls bs) fl n m) : IsFl (tls bs) (growF h bs fl) (n * h) (m * w) := by
  have row_len : ∀ row : List Nat, (∀ c ∈ row, c ∈ tls bs) → ∀ l, l < h → (growRow bs row l).length = row.length * w := by
    intro row hr l hl
    induction row with
    | nil => simp [growRow]
    | cons t r ih =>
      have ft := ru.blk (hr t List.mem_cons_self)
      have hl' : l < (blk bs t).length := by rw [ft.n]; exact hl
      have : ((blk bs t).getD l []).length = w := by
        rw [List.getD_eq_getElem?_getD, List.getElem?_eq_getElem hl', Option.getD_some]
        exact ft.w _ (List.getElem_mem hl')
      have ih := ih fun c hc => hr c (List.mem_cons_of_mem _ hc)
      simp only [growRow, List.flatMap_cons, List.length_append, this, List.length_cons] at ih ⊢
      rw [ih, Nat.add_mul, Nat.one_mul, Nat.add_comm]
  refine ⟨?_, ?_, ?_⟩
  · have : ∀ fl : List (List Nat), (growF h bs fl).length = fl.length * h := by
      intro fl
      induction fl with
      | nil => simp [growF]
      | cons r s ih =>
        simp only [growF, List.flatMap_cons, List.length_append, List.length_map, List.length_range, List.length_cons] at ih ⊢
        rw [ih, Nat.add_mul, Nat.one_mul, Nat.add_comm]
    rw [this, f.n]
  · intro r hr
    obtain ⟨row, h1, h2⟩ := List.mem_flatMap.mp hr
    obtain ⟨l, h3, rfl⟩ := List.mem_map.mp h2
    rw [row_len row (f.cs row h1) l (List.mem_range.mp h3), f.w row h1]
  · intro r hr c hc
    obtain ⟨row, h1, h2⟩ := List.mem_flatMap.mp hr
    obtain ⟨l, h3, rfl⟩ := List.mem_map.mp h2
    obtain ⟨t, h4, h5⟩ := List.mem_flatMap.mp hc
    have ft := ru.blk (f.cs row h1 t h4)
    have hl' : l < (blk bs t).length := by rw [ft.n]; exact List.mem_range.mp h3
    rw [List.getD_eq_getElem?_getD, List.getElem?_eq_getElem hl', Option.getD_some] at h5
    exact ft.cs _ (List.getElem_mem hl') c h5
theorem growN_fl {h w : Nat} {bs : List (Nat × List (List Nat))} (ru : IsRule h w bs) {fl : List (List Nat)} {n m : Nat} (f : IsFl (tls bs) fl n m) : ∀ g, IsFl (tls bs) (growN h bs g fl) (n * h ^ g) (m * w ^ g)
  | 0 => by simpa [growN] using f
  | g + 1 => by
    have := growF_fl ru (growN_fl ru f g)
    rwa [Nat.mul_assoc, Nat.mul_assoc, ← Nat.pow_succ, ← Nat.pow_succ] at this
theorem one_fl {bs : List (Nat × List (List Nat))} {t : Nat} (ht : t ∈ tls bs) : IsFl (tls bs) [[t]] 1 1 := ⟨rfl, by simp, by simpa using ht⟩
theorem growRow_lenG {h w : Nat} {bs : List (Nat × List (List Nat))} (ru : IsRule h w bs) {l : Nat} (hl : l < h) : ∀ {row : List Nat}, (∀ c ∈ row, c ∈ tls bs) → (growRow bs row l).length = row.length * w
  | [], _ => by simp [growRow]
  | t :: r, hr => by
    have ft := ru.blk (hr t List.mem_cons_self)
    have hl' : l < (blk bs t).length := by rw [ft.n]; exact hl
    have : ((blk bs t).getD l []).length = w := by
      rw [List.getD_eq_getElem?_getD, List.getElem?_eq_getElem hl', Option.getD_some]
      exact ft.w _ (List.getElem_mem hl')
    have ih := growRow_lenG ru hl (row := r) fun c hc => hr c (List.mem_cons_of_mem _ hc)
    simp only [growRow, List.flatMap_cons, List.length_append, this, List.length_cons] at ih ⊢
    rw [ih, Nat.add_mul, Nat.one_mul, Nat.add_comm]
theorem notin_sgs (t : Nat) (cs : List Nat) : notInQ [sgP t, .lst (cs.map sgP)] = some (.bl (!decide (t ∈ cs))) := by
  have hsh : ∀ cs : List Nat, P.shps 59 (cs.map sgP) = true := by
    intro cs
    induction cs with
    | nil => simp [P.shps]
    | cons c r ih => simp [P.shps, sgP, P.shp] at ih ⊢; exact ih
  have h : ∀ cs : List Nat, ((cs.map sgP).any fun y => P.eqv y (sgP t)) = decide (t ∈ cs) := by
    intro cs
    induction cs with
    | nil => rfl
    | cons c r ih =>
      rw [List.map_cons, List.any_cons, ih]
      simp only [sgP, P.eqv]
      by_cases hc : t = c
      · simp [hc]
      · have : ¬ c = t := fun z => hc z.symm
        simp [hc, this]
  simp only [notInQ, inQ, sgP]
  have hs := hsh cs
  have := h cs
  simp only [sgP] at this hs
  simp [hs, this, P.shp, sgP]
theorem in_sgs (t : Nat) (cs : List Nat) : inQ [sgP t, .lst (cs.map sgP)] = some (.bl (decide (t ∈ cs))) := by
  have := notin_sgs t cs
  unfold notInQ at this
  cases h : inQ [sgP t, .lst (cs.map sgP)] with
  | none => rw [h] at this; cases this
  | some p =>
    rw [h] at this
    cases p with
    | bl b => simp at this; rw [← this]
    | _ => cases this
theorem is_tile_sg {c : Nat} (h : 97 ≤ c ∧ c ≤ 122) (k : Nat) : run2 PR (k + 1) 61 [.p (sgP c)] = .ok (.p (.bl true)) [] := by
  have hm : ∀ c, 97 ≤ c → c ≤ 122 → inSignP [.str [c], .str lettersL] = some (.bl true) := by
    intro c h1 h2
    simp only [inSignP]
    have : ∀ c, c < 123 → 97 ≤ c → c ∈ lettersL := by decide
    rw [decide_eq_true (this c (by omega) h1)]
  have hm := hm c h.1 h.2
  simp only [lettersL] at hm
  rw [U_is_tile]
  simp [ir_is_tile, sgP, hm]
theorem line_holds_spec {h w t : Nat} {bs : List (Nat × List (List Nat))} {ds : List (Nat × Nat)} (ru : IsRule h w bs) (ht : t ∈ tls bs) (hd : DigOk h w ds) (hl : ds.length ≤ 1000) (k : Nat) : run2 PR (k + 3) 423 [.p (ruleP h w bs), .p (.tup [.lst ((lineF bs t ds).map sgP), .lst (ds.map dgP)])] = .ok (.p (.bl true)) [] := by
  have l0 : ixP [.lst ((lineF bs t ds).map sgP), .int 0] = some (sgP t) := by
    rw [ix_l00 (by simp [lineF])]
    simp [lineF, lastF]
  have ll : (lineF bs t ds).length = ds.length + 1 := by simp [lineF]
  have lin : ∀ c ∈ lineF bs t ds, c ∈ tls bs := by
    intro c hc
    obtain ⟨i, _, rfl⟩ := List.mem_map.mp hc
    exact last_in ru ht fun d hd' => hd d (List.mem_of_mem_take hd')
  have low : ∀ c ∈ tls bs, 97 ≤ c ∧ c ≤ 122 := by
    intro c hc
    obtain ⟨b, hb, rfl⟩ := List.mem_map.mp hc
    exact ru.low b hb
  have e1 := eq_lmap (f := sgP) (fun a => shp_sg 59 a) (lineF bs t ds)
  rw [U_line_holds]
  simp [ir_line_holds, digits_good_spec hd, ll]
  rw [comp2_map sgP (fun _ => P.bl true) (by simp) fun c hc => by
    simp [cpI, is_tile_sg (low c (lin c hc)), in_sgs, lin c hc]]
  simp [allP_true _ (fun _ => P.bl true) (fun _ _ => rfl), l0, line_by_spec ru ht hd hl, e1]
theorem enum_e {xs : List P} (h : xs.length ≤ 16777216) : enumP [.lst xs] = some (enumL 0 xs) := by
  simp only [enumP]
  exact if_pos (show xs.length ≤ line from h)
theorem enum_get {xs : List P} {i : Nat} {x : P} (h : (enumL 0 xs)[i]? = some x) : ∃ y, xs[i]? = some y ∧ x = .tup [.int i, y] := by
  simp only [enumL, List.getElem?_map, List.getElem?_zipIdx, Option.map_map, Option.map_eq_some_iff, Nat.zero_add, Function.comp_def] at h
  obtain ⟨y, a, b⟩ := h
  exact ⟨y, a, b.symm⟩
theorem enum_len (xs : List P) : (enumL 0 xs).length = xs.length := by simp [enumL]
theorem slice_fl (fl : List (List Nat)) (a n : Nat) : sliceP [flP fl, .int (a : Int), .int ((a + n : Nat) : Int)] = some (flP ((fl.drop a).take n)) := by
  rw [Int.natCast_add, flP, slice_tup _ _ _ (np_strs fl), flP, List.map_take, List.map_drop]
theorem slice_sn (x : List Nat) (a n : Nat) : sliceP [.str x, .int (a : Int), .int ((a + n : Nat) : Int)] = some (.str ((x.drop a).take n)) := by
  rw [Int.natCast_add, slice_str]
theorem range_cut {H r n : Nat} (h : r + n ≤ H) : ((List.range H).drop r).take n = (List.range n).map (r + ·) := by
  apply List.ext_getElem
  · simp; omega
  · intro i h1 h2
    simp
theorem cut_cut {h w : Nat} {bs : List (Nat × List (List Nat))} {t g H W r c a b : Nat} (h1 : r + a ≤ H) (h2 : c + b ≤ W) : (((cutFar h w bs t g 0 0 H W).drop r).take a).map (fun x => (x.drop c).take b) = cutFar h w bs t g r c a b := by
  simp only [cutFar, ← List.map_drop, ← List.map_take, range_cut h1, List.map_map]
  refine List.map_congr_left fun i _ => ?_
  simp only [Function.comp_def, ← List.map_drop, ← List.map_take, range_cut h2, List.map_map, Nat.zero_add]
/-! ### signs sorted -/
theorem lt_one (a b : Nat) : decide ([a] < [b]) = decide (a < b) := by
  rw [Bool.eq_iff_iff]
  simp only [decide_eq_true_eq, List.cons_lt_cons_iff]
  constructor
  · rintro (h | ⟨_, h⟩)
    · exact h
    · exact absurd h (List.not_lt_nil _)
  · exact .inl
theorem sort_sg (cs : List Nat) : sortP (cs.map sgP) = (cs.mergeSort fun a b => decide (a ≤ b)).map sgP := by
  unfold sortP
  refine (List.map_mergeSort fun a _ b _ => ?_).symm
  simp only [sgP, P.lt, lt_one]
  by_cases h : a ≤ b
  · rw [decide_eq_true h, decide_eq_false (by omega)]
    rfl
  · rw [decide_eq_false h, decide_eq_true (by omega)]
    rfl
theorem shps_sgs (n : Nat) : ∀ cs : List Nat, P.shps n (cs.map sgP) = true
  | [] => by simp [P.shps]
  | c :: r => by simp [P.shps, sgP, P.shp, shps_sgs n r]
theorem canSort_sg {cs : List Nat} (h : cs.length ≤ 16777216) : canSort (cs.map sgP) = true := by
  simp only [canSort, shps_sgs, List.length_map, Bool.and_eq_true, Bool.or_eq_true, decide_eq_true_eq]
  refine ⟨⟨⟨?_, .inr ?_⟩, trivial⟩, h⟩
  · simp [sgP, P.alk]
  · simp [sgP, notTN]
theorem sorted_sg {cs : List Nat} (h : cs.length ≤ 16777216) : sortedP [.lst (cs.map sgP)] = some (.lst ((cs.mergeSort fun a b => decide (a ≤ b)).map sgP)) := by
  simp only [sortedP]
  rw [if_pos (canSort_sg h), sort_sg]
theorem msort_lt {cs : List Nat} (hn : cs.Nodup) : (cs.mergeSort fun a b => decide (a ≤ b)).Pairwise (· < ·) := by
  have h1 : (cs.mergeSort fun a b => decide (a ≤ b)).Pairwise fun a b => decide (a ≤ b) = true := by
    apply List.pairwise_mergeSort
    · intro a b c h1 h2
      simp only [decide_eq_true_eq] at h1 h2 ⊢
      omega
    · intro a b
      simp only [Bool.or_eq_true, decide_eq_true_eq]
      omega
  have h3 := (List.mergeSort_perm cs fun a b => decide (a ≤ b)).nodup_iff.mpr hn
  refine (h1.and h3).imp fun {a b} hab => ?_
  have := of_decide_eq_true hab.1
  have := hab.2
  omega
/-- rising lists of the same things are the same -/
theorem rising_eq : ∀ {xs ys : List Nat}, xs.Pairwise (· < ·) → ys.Pairwise (· < ·) → (∀ a, a ∈ xs ↔ a ∈ ys) → xs = ys
  | [], [], _, _, _ => rfl
  | [], y :: r, _, _, h => absurd ((h y).mpr List.mem_cons_self) (by simp)
  | x :: r, [], _, _, h => absurd ((h x).mp List.mem_cons_self) (by simp)
  | x :: xs, y :: ys, h1, h2, h => by
    rw [List.pairwise_cons] at h1 h2
    have e : x = y := by
      rcases List.mem_cons.mp ((h x).mp List.mem_cons_self) with e | e
      · exact e
      · rcases List.mem_cons.mp ((h y).mpr List.mem_cons_self) with e' | e'
        · exact e'.symm
        · have a := h2.1 x e
          have b := h1.1 y e'
          omega
    subst e
    rw [rising_eq h1.2 h2.2 fun a => ⟨fun ha => by
      rcases List.mem_cons.mp ((h a).mp (List.mem_cons_of_mem _ ha)) with e | e
      · have := h1.1 a ha
        omega
      · exact e, fun ha => by
      rcases List.mem_cons.mp ((h a).mpr (List.mem_cons_of_mem _ ha)) with e | e
      · have := h2.1 a ha
        omega
      · exact e⟩]
/-- things of a rising list, sorted -/
theorem msort_filter {ts cs : List Nat} (ht : ts.Pairwise (· < ·)) (hn : cs.Nodup) (hs : ∀ c ∈ cs, c ∈ ts) (q : Nat → Bool) (hq : ∀ c, c ∈ ts → (q c = true ↔ c ∈ cs)) : (cs.mergeSort fun a b => decide (a ≤ b)) = ts.filter q := by
  refine rising_eq (msort_lt hn) (ht.filter _) fun a => ?_
  rw [List.mem_mergeSort, List.mem_filter]
  exact ⟨fun h => ⟨hs a h, (hq a (hs a h)).mpr h⟩, fun h => (hq a h.1).mp h.2⟩
theorem range2_one {n : Nat} (h : n ≤ 16777216) : range2Q [.int 1, .int ((n + 1 : Nat) : Int)] = some ((List.range n).map fun i => natP (1 + i)) := by
  simp only [range2Q]
  rw [if_pos (by omega)]
  simp only [rangeL, natP]
  rw [show (((n + 1 : Nat) : Int) - 1).toNat = n by omega]
  simp
/-! ### what comes of a tile -/
def sgn (bs : List (Nat × List (List Nat))) (t : Nat) : List Nat := (blk bs t).flatten
inductive Rc (bs : List (Nat × List (List Nat))) (t : Nat) : Nat → Prop where
  | refl : Rc bs t t
  | step {x y : Nat} : Rc bs t x → y ∈ sgn bs x → Rc bs t y
theorem Rc.trans {bs : List (Nat × List (List Nat))} {a b c : Nat} (h1 : Rc bs a b) (h2 : Rc bs b c) : Rc bs a c := by
  induction h2 with
  | refl => exact h1
  | step _ hy ih => exact .step ih hy
theorem sgn_in {h w : Nat} {bs : List (Nat × List (List Nat))} (ru : IsRule h w bs) {x y : Nat} (hx : x ∈ tls bs) (hy : y ∈ sgn bs x) : y ∈ tls bs := by
  obtain ⟨r, h1, h2⟩ := List.mem_flatten.mp hy
  exact (ru.blk hx).cs r h1 y h2
theorem Rc.tls {h w : Nat} {bs : List (Nat × List (List Nat))} (ru : IsRule h w bs) {t x : Nat} (ht : t ∈ tls bs) (hx : Rc bs t x) : x ∈ tls bs := by
  induction hx with
  | refl => exact ht
  | step _ hy ih => exact sgn_in ru ih hy
/-- a closed set that has the tile has what comes of it -/
theorem Rc.closed {bs : List (Nat × List (List Nat))} {t : Nat} {S : Nat → Prop} (h0 : S t) (hS : ∀ x y, S x → y ∈ sgn bs x → S y) {x : Nat} (h : Rc bs t x) : S x := by
  induction h with
  | refl => exact h0
  | step _ hy ih => exact hS _ _ ih hy
def nx (bs : List (Nat × List (List Nat))) (S : List Nat) : List Nat := (tls bs).filter fun c => S.any fun t => decide (c ∈ sgn bs t)
theorem mem_nx {bs : List (Nat × List (List Nat))} {S : List Nat} {c : Nat} : c ∈ nx bs S ↔ c ∈ tls bs ∧ ∃ t ∈ S, c ∈ sgn bs t := by
  simp [nx]
theorem nx_ne {h w : Nat} {bs : List (Nat × List (List Nat))} (ru : IsRule h w bs) {S : List Nat} (hS : ∀ c ∈ S, c ∈ tls bs) (hne : S ≠ []) : ∃ c, c ∈ nx bs S := by
  match S, hne with
  | s :: r, _ =>
    have f := ru.blk (hS s List.mem_cons_self)
    have h1 := ru.h1
    have w1 := ru.w1
    have l0 : 0 < (blk bs s).length := by rw [f.n]; exact h1
    have l1 : 0 < (blk bs s)[0].length := by rw [f.w _ (List.getElem_mem l0)]; exact w1
    refine ⟨(blk bs s)[0][0], mem_nx.mpr ⟨f.cs _ (List.getElem_mem l0) _ (List.getElem_mem l1), s, List.mem_cons_self, ?_⟩⟩
    exact List.mem_flatten.mpr ⟨_, List.getElem_mem l0, List.getElem_mem l1⟩
/-! ### which tiles stand after so many growings -/
def stp (bs : List (Nat × List (List Nat))) (t : Nat) : Nat → List Nat
  | 0 => [t]
  | k + 1 => nx bs (stp bs t k)
theorem stp_in {bs : List (Nat × List (List Nat))} {t k c : Nat} (ht : t ∈ tls bs) (hc : c ∈ stp bs t k) : c ∈ tls bs := by
  cases k with
  | zero =>
    rw [List.mem_singleton.mp hc]
    exact ht
  | succ k => exact (mem_nx.mp hc).1
/-- after how many growings it first stands -/
def Lv (bs : List (Nat × List (List Nat))) (t c g : Nat) : Prop := c ∈ stp bs t g ∧ ∀ j, j < g → c ∉ stp bs t j
theorem Lv.uni {bs : List (Nat × List (List Nat))} {t c a b : Nat} (h1 : Lv bs t c a) (h2 : Lv bs t c b) : a = b := by
  by_cases h : a < b
  · exact absurd h1.1 (h2.2 a h)
  · by_cases h' : b < a
    · exact absurd h2.1 (h1.2 b h')
    · omega
/-! dicts of tiles -/
def tkv (q : Nat × P) : P × P := (sgP q.1, q.2)
def keysL (K : List (Nat × P)) : List Nat := K.map (·.1)
def valsL (K : List (Nat × P)) : List P := K.map (·.2)
@[simp high] theorem oval_tkv (K : List (Nat × P)) : oval (.dic (K.map tkv)) = some (.dic ((keysL K).map sgP) (valsL K)) := by
  simp only [oval, keysL, valsL, List.map_map]
  rfl
def addK (ks : List Nat) (c : Nat) : List Nat := if c ∈ ks then ks else ks ++ [c]
theorem mem_addK {ks : List Nat} {c x : Nat} : x ∈ addK ks c ↔ x ∈ ks ∨ x = c := by
  unfold addK
  split
  · rename_i h
    exact ⟨.inl, fun z => z.elim id fun e => e ▸ h⟩
  · simp
theorem nodup_addK {ks : List Nat} {c : Nat} (h : ks.Nodup) : (addK ks c).Nodup := by
  unfold addK
  split
  · exact h
  · rename_i hc
    rw [List.nodup_append]
    refine ⟨h, by simp, fun a ha b hb => ?_⟩
    rw [List.mem_singleton.mp hb]
    rintro rfl
    exact hc ha
theorem setDM_sg (K : List (Nat × P)) (c : Nat) (v : P) (h : K.length < 16777216) : ∃ K' : List (Nat × P), setDM (.dic (K.map tkv)) [sgP c, v] = some (.dic (K'.map tkv), .non) ∧ keysL K' = addK (keysL K) c ∧ ∀ q ∈ K', q = (c, v) ∨ q ∈ K := by
  have hc : (isKeyP (sgP c) && (K.map tkv).all (fun q => isTupP q.1 == isTupP (sgP c)) && decide ((K.map tkv).length < line)) = true := by
    simp only [Bool.and_eq_true, decide_eq_true_eq, List.all_eq_true, List.mem_map, List.length_map]
    refine ⟨⟨rfl, ?_⟩, h⟩
    rintro x ⟨q, _, rfl⟩
    rfl
  simp only [setDM, hc, if_true]
  have hany : (K.map tkv).any (fun q => decide (q.1 = sgP c)) = decide (c ∈ keysL K) := by
    rw [Bool.eq_iff_iff, List.any_eq_true, decide_eq_true_eq]
    constructor
    · rintro ⟨q, hq, e⟩
      obtain ⟨a, ha, rfl⟩ := List.mem_map.mp hq
      have := sgP_inj (of_decide_eq_true e)
      exact List.mem_map.mpr ⟨a, ha, this⟩
    · intro hm
      obtain ⟨a, ha, e⟩ := List.mem_map.mp hm
      exact ⟨tkv a, List.mem_map.mpr ⟨a, ha, rfl⟩, decide_eq_true (by rw [tkv, e])⟩
  unfold putP addK
  rw [hany]
  by_cases hm : c ∈ keysL K
  · rw [if_pos (by simpa using hm), if_pos hm]
    refine ⟨K.map fun q => if q.1 = c then (c, v) else q, ?_, ?_, ?_⟩
    rotate_left 2
    · intro q hq
      obtain ⟨a, ha, rfl⟩ := List.mem_map.mp hq
      by_cases e : a.1 = c
      · simp [e]
      · simp [e, ha]
    · congr 3
      rw [List.map_map, List.map_map]
      refine List.map_congr_left fun q _ => ?_
      simp only [Function.comp_def, tkv]
      by_cases e : q.1 = c
      · simp [e]
      · have : ¬ sgP q.1 = sgP c := fun z => e (sgP_inj z)
        simp [e, this]
    · simp only [keysL, List.map_map]
      refine List.map_congr_left fun q _ => ?_
      simp only [Function.comp_def]
      by_cases e : q.1 = c
      · simp [e]
      · simp [e]
  · rw [if_neg (by simpa using hm), if_neg hm]
    refine ⟨K ++ [(c, v)], by simp [tkv], by simp [keysL], fun q hq => ?_⟩
    rcases List.mem_append.mp hq with h | h
    · exact .inr h
    · rw [List.mem_singleton.mp h]
      exact .inl rfl
theorem in_dk (c : Nat) (ks : List Nat) (vs : List P) : inQ [sgP c, .dic (ks.map sgP) vs] = some (.bl (decide (c ∈ ks))) := by
  have h1 : (isKeyP (sgP c) && (ks.map sgP).all (fun j => isTupP j == isTupP (sgP c))) = true := by
    simp only [Bool.and_eq_true, List.all_eq_true, List.mem_map]
    refine ⟨rfl, ?_⟩
    rintro x ⟨q, _, rfl⟩
    rfl
  have h2 : (sgP c ∈ ks.map sgP) ↔ c ∈ ks := by
    rw [List.mem_map]
    exact ⟨fun ⟨a, ha, e⟩ => sgP_inj e ▸ ha, fun h => ⟨c, h, rfl⟩⟩
  show (if (isKeyP (sgP c) && (ks.map sgP).all (fun j => isTupP j == isTupP (sgP c))) then some (P.bl (decide (sgP c ∈ ks.map sgP))) else none) = _
  rw [if_pos h1]
  simp only [h2]
theorem notin_dk (c : Nat) (ks : List Nat) (vs : List P) : notInQ [sgP c, .dic (ks.map sgP) vs] = some (.bl (!decide (c ∈ ks))) := by
  simp only [notInQ, in_dk]
theorem list_dk {ks : List Nat} (vs : List P) (hne : ks ≠ []) (hk : ∀ c ∈ ks, c < 1114112) : listD [.dic (ks.map sgP) vs] = some (.lst (ks.map sgP)) := by
  simp only [listD]
  rw [if_pos]
  simp only [Bool.and_eq_true, Bool.not_eq_true', List.isEmpty_eq_false_iff, List.all_eq_true, List.mem_map]
  refine ⟨by simpa using hne, ?_⟩
  rintro x ⟨c, hc, rfl⟩
  have := hk c hc
  simp [sgP, okAtom, this]
theorem tls_low {h w : Nat} {bs : List (Nat × List (List Nat))} (ru : IsRule h w bs) {c : Nat} (hc : c ∈ tls bs) : c < 1114112 := by
  obtain ⟨b, hb, rfl⟩ := List.mem_map.mp hc
  have := (ru.low b hb).2
  omega
theorem sub_len {ks ts : List Nat} (hn : ks.Nodup) (hs : ∀ c ∈ ks, c ∈ ts) : ks.length ≤ ts.length := by
  induction ks generalizing ts with
  | nil => simp
  | cons k r ih =>
    rw [List.nodup_cons] at hn
    have hk := hs k List.mem_cons_self
    have := ih (ts := ts.erase k) hn.2 fun c hc => (List.mem_erase_of_ne (fun e => hn.1 (by rw [← e]; exact hc))).mpr (hs c (List.mem_cons_of_mem _ hc))
    rw [List.length_erase_of_mem hk] at this
    have := List.length_pos_of_mem hk
    simp
    omega
/-- sorted(list(found)) -/
theorem sort_keys {h w : Nat} {bs : List (Nat × List (List Nat))} (ru : IsRule h w bs) {ks : List Nat} (hn : ks.Nodup) (hs : ∀ c ∈ ks, c ∈ tls bs) (q : Nat → Bool) (hq : ∀ c, c ∈ tls bs → (q c = true ↔ c ∈ ks)) : sortedP [.lst (ks.map sgP)] = some (.lst (((tls bs).filter q).map sgP)) := by
  have hl := sub_len hn hs
  have hm := ru.many
  rw [tls_len] at hl
  rw [sorted_sg (by omega), msort_filter ru.srt hn hs q hq]
theorem for_set (v0 : P) {chk : E2 → Bool} {f : P → E2 → S2} {K0 : List (Nat × P)} {ts : List Nat} (mk : List (Nat × P) → Option V → E2) (xs : List Nat) (hx : ∀ c ∈ xs, c ∈ ts) (h0 : (keysL K0).Nodup ∧ ∀ c ∈ keysL K0, c ∈ ts) (hl : ts.length ≤ 1000) (hc : ∀ K x, chk (mk K x) = true) {x0 : Option V}
    (hf : ∀ K K' c x v, setDM (.dic (K.map tkv)) [sgP c, v] = some (.dic (K'.map tkv), .non) → v = v0 → f (sgP c) (mk K x) = .nx (mk K' (some (.p (sgP c))))) : ∃ K x, forL2 chk f (xs.map sgP) (mk K0 x0) = .nx (mk K x) ∧ (keysL K).Nodup ∧ (∀ c ∈ keysL K, c ∈ ts) ∧ (∀ c, c ∈ keysL K ↔ c ∈ keysL K0 ∨ c ∈ xs) ∧ (∀ q ∈ K, (q.1 ∈ xs ∧ q.2 = v0) ∨ q ∈ K0) ∧ (x = x0 ∨ ∃ c, x = some (.p (sgP c))) := by
  induction xs generalizing K0 x0 with
  | nil => exact ⟨K0, x0, by simp [forL2, hc], h0.1, h0.2, by simp, fun q hq => .inr hq, .inl rfl⟩
  | cons c r ih =>
    have hlen : K0.length < 16777216 := by
      have := sub_len h0.1 h0.2
      simp [keysL] at this
      omega
    obtain ⟨K', e1, e2, e3⟩ := setDM_sg K0 c v0 hlen
    have q := hf K0 K' c x0 _ e1 rfl
    obtain ⟨K, x, h1, h2, h3, h4, h5, h6⟩ := ih (K0 := K') (x0 := some (.p (sgP c))) (fun c hc => hx c (List.mem_cons_of_mem _ hc)) (by
      rw [e2]
      exact ⟨nodup_addK h0.1, fun d hd => (mem_addK.mp hd).elim (h0.2 d) fun e => e ▸ hx c List.mem_cons_self⟩)
    refine ⟨K, x, ?_, h2, h3, fun d => ?_, fun q hq => (h5 q hq).elim (fun z => .inl ⟨List.mem_cons_of_mem _ z.1, z.2⟩) fun z => (e3 q z).imp (fun e => by rw [e]; exact ⟨List.mem_cons_self, rfl⟩) id, .inr (h6.elim (fun e => ⟨c, e⟩) id)⟩
    · rw [List.map_cons]
      unfold forL2
      rw [if_pos (hc _ _), q]
      exact h1
    · rw [h4, e2, mem_addK, List.mem_cons]
      constructor
      · rintro ((h | h) | h)
        · exact .inl h
        · exact .inr (.inl h)
        · exact .inr (.inr h)
      · rintro (h | h | h)
        · exact .inl (.inl h)
        · exact .inl (.inr h)
        · exact .inr h
theorem for_setE (v0 : P) {chk : E2 → Bool} {f : P → E2 → S2} {R : S2} {K0 : List (Nat × P)} {xs : List Nat} {x0 : Option V} (mk : List (Nat × P) → Option V → E2) (hr : forL2 chk f (xs.map sgP) (mk K0 x0) = R) (ts : List Nat) (hx : ∀ c ∈ xs, c ∈ ts) (h0 : (keysL K0).Nodup ∧ ∀ c ∈ keysL K0, c ∈ ts) (hl : ts.length ≤ 1000) (hc : ∀ K x, chk (mk K x) = true)
    (hf : ∀ K K' c x v, setDM (.dic (K.map tkv)) [sgP c, v] = some (.dic (K'.map tkv), .non) → v = v0 → f (sgP c) (mk K x) = .nx (mk K' (some (.p (sgP c))))) : ∃ K x, R = .nx (mk K x) ∧ (keysL K).Nodup ∧ (∀ c ∈ keysL K, c ∈ ts) ∧ (∀ c, c ∈ keysL K ↔ c ∈ keysL K0 ∨ c ∈ xs) ∧ (∀ q ∈ K, (q.1 ∈ xs ∧ q.2 = v0) ∨ q ∈ K0) ∧ (x = x0 ∨ ∃ c, x = some (.p (sgP c))) := by
  obtain ⟨K, x, h⟩ := for_set v0 mk xs hx h0 hl hc hf (x0 := x0)
  exact ⟨K, x, hr.symm.trans h.1, h.2⟩
def gpP (g : List Nat) : P := .tup (g.map sgP)
theorem sgs_inj {a b : List Nat} (h : a.map sgP = b.map sgP) : a = b := by
  induction a generalizing b with
  | nil => cases b with
    | nil => rfl
    | cons _ _ => cases h
  | cons x r ih => cases b with
    | nil => cases h
    | cons y s =>
      rw [List.map_cons, List.map_cons] at h
      injection h with h1 h2
      rw [sgP_inj h1, ih h2]
theorem eqvs_sg : ∀ a b : List Nat, P.eqvs (a.map sgP) (b.map sgP) = decide (a = b)
  | [], [] => rfl
  | [], _ :: _ => rfl
  | _ :: _, [] => rfl
  | x :: r, y :: s => by
    rw [List.map_cons, List.map_cons]
    simp only [P.eqvs, eqvs_sg r s, sgP, P.eqv]
    rw [Bool.eq_iff_iff]
    simp
theorem eqv_gp (a b : List Nat) : P.eqv (gpP a) (gpP b) = decide (a = b) := by
  simp only [gpP, P.eqv, eqvs_sg]
theorem eqvs_gp : ∀ a b : List (List Nat), P.eqvs (a.map gpP) (b.map gpP) = decide (a = b)
  | [], [] => rfl
  | [], _ :: _ => rfl
  | _ :: _, [] => rfl
  | x :: r, y :: s => by
    rw [List.map_cons, List.map_cons]
    simp only [P.eqvs, eqvs_gp r s, eqv_gp]
    rw [Bool.eq_iff_iff]
    simp
theorem shps_gp (n : Nat) : ∀ a : List (List Nat), P.shps (n + 1) (a.map gpP) = true
  | [] => by simp [P.shps]
  | x :: r => by simp [P.shps, gpP, P.shp, shps_sgs n x]; exact shps_gp n r
theorem in_gp (g : List Nat) (G : List (List Nat)) : inQ [gpP g, .lst (G.map gpP)] = some (.bl (decide (g ∈ G))) := by
  have h1 : (P.shp 59 (gpP g) && P.shps 59 (G.map gpP)) = true := by
    rw [shps_gp 58 G]
    simp [gpP, P.shp, shps_sgs 58 g]
  have h2 : ((G.map gpP).any fun y => P.eqv y (gpP g)) = decide (g ∈ G) := by
    rw [Bool.eq_iff_iff, List.any_eq_true, decide_eq_true_eq]
    constructor
    · rintro ⟨y, hy, e⟩
      obtain ⟨a, ha, rfl⟩ := List.mem_map.mp hy
      rw [eqv_gp, decide_eq_true_eq] at e
      exact e ▸ ha
    · exact fun h => ⟨gpP g, List.mem_map.mpr ⟨g, h, rfl⟩, by rw [eqv_gp]; simp⟩
  show (if P.shp 59 (gpP g) && P.shps 59 (G.map gpP) then some (P.bl ((G.map gpP).any fun y => P.eqv y (gpP g))) else none) = _
  rw [if_pos h1, h2]
theorem notin_gp (g : List Nat) (G : List (List Nat)) : notInQ [gpP g, .lst (G.map gpP)] = some (.bl (!decide (g ∈ G))) := by
  simp only [notInQ, in_gp]
theorem ne_gp (a b : List (List Nat)) : neP [.lst (a.map gpP), .lst (b.map gpP)] = some (.bl (!decide (a = b))) := by
  simp only [neP, P.shp, shps_gp 58, Bool.and_self, if_true, P.eqv, eqvs_gp]
theorem eq_sgl (a b : List Nat) : eqP [.lst (a.map sgP), .lst (b.map sgP)] = some (.bl (decide (a = b))) := by
  simp only [eqP, P.shp, shps_sgs 59, Bool.and_self, if_true, P.eqv, eqvs_sg]
theorem strIn_sg (c : Nat) : ∀ g : List Nat, strInP [c] (g.map sgP) = some (decide (c ∈ g))
  | [] => rfl
  | x :: r => by
    rw [List.map_cons]
    simp only [strInP, sgP]
    rw [strIn_sg c r]
    simp only [Option.some.injEq]
    rw [Bool.eq_iff_iff]
    simp
    exact ⟨fun h => h.imp (fun e => e.symm) id, fun h => h.imp (fun e => e.symm) id⟩
theorem inT_gp (c : Nat) (g : List Nat) : inT [sgP c, gpP g] = some (.bl (decide (c ∈ g))) := by
  show (strInP [c] (g.map sgP)).map P.bl = _
  rw [strIn_sg]
  rfl
theorem ix_gp {g : List Nat} {t : Nat} (ht : t ∈ g) : ∃ c ∈ g, ixP [gpP g, .int 0] = some (sgP c) ∧ g.head? = some c := by
  cases g with
  | nil => cases ht
  | cons c r =>
    refine ⟨c, List.mem_cons_self, ?_, rfl⟩
    show ixP [.tup (sgP c :: r.map sgP), .int ((0 : Nat) : Int)] = _
    rw [ix_tn (by simp)]
    rfl
theorem stp_ne {h w : Nat} {bs : List (Nat × List (List Nat))} (ru : IsRule h w bs) {t : Nat} (ht : t ∈ tls bs) : ∀ k, stp bs t k ≠ []
  | 0 => by simp [stp]
  | k + 1 => by
    obtain ⟨c, hc⟩ := nx_ne ru (fun c hc => stp_in ht hc) (stp_ne ru ht k)
    exact List.ne_nil_of_mem hc
theorem stp_add {bs : List (Nat × List (List Nat))} {t c : Nat} (ht : t ∈ tls bs) (a : Nat) : ∀ b c, c ∈ stp bs t (a + b) ↔ ∃ x ∈ stp bs t a, c ∈ stp bs x b
  | 0, c => by simp [stp]
  | b + 1, c => by
    show c ∈ nx bs (stp bs t (a + b)) ↔ _
    rw [mem_nx]
    constructor
    · rintro ⟨h1, y, h2, h3⟩
      obtain ⟨x, h4, h5⟩ := (stp_add (c := c) ht a b y).mp h2
      exact ⟨x, h4, mem_nx.mpr ⟨h1, y, h5, h3⟩⟩
    · rintro ⟨x, h4, h5⟩
      obtain ⟨h1, y, h2, h3⟩ := mem_nx.mp h5
      exact ⟨h1, y, (stp_add (c := c) ht a b y).mpr ⟨x, h4, h2⟩, h3⟩
theorem stp_filter {h w : Nat} {bs : List (Nat × List (List Nat))} (ru : IsRule h w bs) {t : Nat} (ht : t ∈ tls bs) : ∀ k, ∃ q : Nat → Bool, stp bs t k = (tls bs).filter q
  | 0 => by
    refine ⟨fun c => decide (c = t), ?_⟩
    have := msort_filter ru.srt (cs := [t]) (by simp) (by simpa using ht) (fun c => decide (c = t)) (fun c _ => by simp)
    rw [← this]
    simp [stp]
  | k + 1 => ⟨_, rfl⟩
theorem tls_nodup {h w : Nat} {bs : List (Nat × List (List Nat))} (ru : IsRule h w bs) : (tls bs).Nodup := ru.srt.imp fun h => Nat.ne_of_lt h
theorem stp_nodup {h w : Nat} {bs : List (Nat × List (List Nat))} (ru : IsRule h w bs) {t : Nat} (ht : t ∈ tls bs) (k : Nat) : (stp bs t k).Nodup := by
  obtain ⟨q, hq⟩ := stp_filter ru ht k
  rw [hq]
  exact (tls_nodup ru).filter q
theorem full_iff {h w : Nat} {bs : List (Nat × List (List Nat))} (ru : IsRule h w bs) {t k : Nat} (ht : t ∈ tls bs) : stp bs t k = tls bs ↔ ∀ c ∈ tls bs, c ∈ stp bs t k := by
  constructor
  · intro e c hc
    rwa [e]
  · intro hall
    obtain ⟨q, hq⟩ := stp_filter ru ht k
    rw [hq] at hall ⊢
    exact List.filter_eq_self.mpr fun c hc => (List.mem_filter.mp (hall c hc)).2
theorem full_succ {h w : Nat} {bs : List (Nat × List (List Nat))} (ru : IsRule h w bs) {t k : Nat} (ht : t ∈ tls bs) (hf : stp bs t k = tls bs) : stp bs t (k + 1) = tls bs := by
  rw [full_iff ru ht]
  intro c hc
  cases k with
  | zero =>
    obtain ⟨d, hd⟩ := List.exists_mem_of_ne_nil _ (stp_ne ru ht 1)
    have h1 := stp_in ht hd
    rw [← hf] at h1 hc
    have e1 : d = t := List.mem_singleton.mp h1
    rw [show c = t from List.mem_singleton.mp hc]
    exact e1 ▸ hd
  | succ k =>
    rw [← hf] at hc
    obtain ⟨h1, y, h2, h3⟩ := mem_nx.mp hc
    exact mem_nx.mpr ⟨h1, y, by rw [hf]; exact stp_in ht h2, h3⟩
theorem full_le {h w : Nat} {bs : List (Nat × List (List Nat))} (ru : IsRule h w bs) {t k j : Nat} (ht : t ∈ tls bs) (hf : stp bs t k = tls bs) (hj : k ≤ j) : stp bs t j = tls bs := by
  obtain ⟨d, rfl⟩ := Nat.exists_eq_add_of_le hj
  clear hj
  induction d with
  | zero => exact hf
  | succ d ih => exact full_succ ru ht ih
/-- lists of signs that grow till they stand still -/
theorem grow_stop {U : Nat → List Nat} {ts : List Nat} (hn : ∀ k, (U k).Nodup) (hs : ∀ k c, c ∈ U k → c ∈ ts) (h0 : U 0 ≠ []) (hm : ∀ k c, c ∈ U k → c ∈ U (k + 1)) (hst : ∀ k, (∀ c ∈ U (k + 1), c ∈ U k) → ∀ c ∈ U (k + 2), c ∈ U (k + 1)) (j c : Nat) (hc : c ∈ U j) : c ∈ U (ts.length - 1) := by
  have up : ∀ d k c, c ∈ U k → c ∈ U (k + d) := by
    intro d
    induction d with
    | zero => exact fun k c h => h
    | succ d ih => exact fun k c h => hm _ _ (ih k c h)
  have dn : ∀ i, (∀ c ∈ U (i + 1), c ∈ U i) → ∀ d, (∀ c ∈ U (i + d + 1), c ∈ U (i + d)) := by
    intro i h d
    induction d with
    | zero => exact h
    | succ d ih => exact hst _ ih
  have dn2 : ∀ i, (∀ c ∈ U (i + 1), c ∈ U i) → ∀ d c, c ∈ U (i + d) → c ∈ U i := by
    intro i h d
    induction d with
    | zero => exact fun c h => h
    | succ d ih => exact fun c hc => ih c (dn i h d c hc)
  have key : ∀ k, (∃ i, i ≤ k ∧ ∀ c ∈ U (i + 1), c ∈ U i) ∨ k + 1 ≤ (U k).length := by
    intro k
    induction k with
    | zero => exact .inr (List.length_pos_iff.mpr h0)
    | succ k ih =>
      rcases ih with ⟨i, h1, h2⟩ | h1
      · exact .inl ⟨i, by omega, h2⟩
      · by_cases hsub : ∀ c ∈ U (k + 1), c ∈ U k
        · exact .inl ⟨k, by omega, hsub⟩
        · right
          have ⟨c0, hc0, hc1⟩ : ∃ c, c ∈ U (k + 1) ∧ c ∉ U k := by
            refine Classical.byContradiction fun hno => hsub fun c hc => Classical.byContradiction fun hck => hno ⟨c, hc, hck⟩
          have := sub_len (List.nodup_cons.mpr ⟨hc1, hn k⟩) (ts := U (k + 1)) fun c hc => by
            rcases List.mem_cons.mp hc with rfl | hc
            · exact hc0
            · exact hm k c hc
          simp at this
          omega
  rcases key (ts.length - 1) with ⟨i, h1, h2⟩ | h1
  · have hi : c ∈ U i := by
      rcases Nat.le_total i j with h | h
      · obtain ⟨d, rfl⟩ := Nat.exists_eq_add_of_le h
        exact dn2 i h2 d c hc
      · obtain ⟨d, rfl⟩ := Nat.exists_eq_add_of_le h
        exact up d j c hc
    obtain ⟨d, e⟩ := Nat.exists_eq_add_of_le h1
    rw [e]
    exact up d i c hi
  · refine Classical.byContradiction fun hno => ?_
    have := sub_len (List.nodup_cons.mpr ⟨hno, hn _⟩) (ts := ts) fun d hd => by
      rcases List.mem_cons.mp hd with rfl | hd
      · exact hs j _ hc
      · exact hs _ _ hd
    simp at this
    omega
/-- a tile that comes at all comes early -/
theorem stp_near {h w : Nat} {bs : List (Nat × List (List Nat))} (ru : IsRule h w bs) {x t d : Nat} (hx : x ∈ tls bs) (hd : t ∈ stp bs x d) : ∃ e, e < bs.length ∧ t ∈ stp bs x e := by
  obtain ⟨U, hU⟩ : ∃ U : Nat → List Nat, U = fun k => (tls bs).filter fun c => (List.range (k + 1)).any fun j => decide (c ∈ stp bs x j) := ⟨_, rfl⟩
  have mU : ∀ k c, c ∈ U k ↔ ∃ j, j ≤ k ∧ c ∈ stp bs x j := by
    intro k c
    rw [hU]
    simp only [List.mem_filter, List.any_eq_true, List.mem_range, decide_eq_true_eq]
    exact ⟨fun ⟨_, j, h1, h2⟩ => ⟨j, by omega, h2⟩, fun ⟨j, h1, h2⟩ => ⟨stp_in hx h2, j, by omega, h2⟩⟩
  have := grow_stop (U := U) (ts := tls bs) (fun k => by rw [hU]; exact (tls_nodup ru).filter _) (fun k c hc => by
      obtain ⟨j, _, h2⟩ := (mU k c).mp hc
      exact stp_in hx h2) (List.ne_nil_of_mem ((mU 0 x).mpr ⟨0, by omega, List.mem_singleton.mpr rfl⟩)) (fun k c hc => by
      obtain ⟨j, h1, h2⟩ := (mU k c).mp hc
      exact (mU _ c).mpr ⟨j, by omega, h2⟩) (fun k hk c hc => by
      obtain ⟨j, h1, h2⟩ := (mU _ c).mp hc
      cases j with
      | zero => exact (mU _ c).mpr ⟨0, by omega, h2⟩
      | succ j =>
        obtain ⟨h3, y, h4, h5⟩ := mem_nx.mp h2
        obtain ⟨i, h6, h7⟩ := (mU _ y).mp (hk y ((mU _ y).mpr ⟨j, by omega, h4⟩))
        exact (mU _ c).mpr ⟨i + 1, by omega, mem_nx.mpr ⟨h3, y, h7, h5⟩⟩) d t ((mU d t).mpr ⟨d, by omega, hd⟩)
  obtain ⟨j, h1, h2⟩ := (mU _ t).mp this
  have hp := List.length_pos_of_mem hx
  rw [tls_len] at h1 hp
  exact ⟨j, by omega, h2⟩
/-- a rule that mixes at all mixes early -/
theorem mix_early {h w : Nat} {bs : List (Nat × List (List Nat))} (ru : IsRule h w bs) (hm : ∀ t ∈ tls bs, ∃ k, stp bs t k = tls bs) (t : Nat) (ht : t ∈ tls bs) : stp bs t (bs.length * bs.length + 1) = tls bs := by
  obtain ⟨m, hf⟩ := hm t ht
  obtain ⟨s, hs1, hsn, hst⟩ : ∃ s, 1 ≤ s ∧ s ≤ bs.length ∧ t ∈ stp bs t s := by
    obtain ⟨x, hx⟩ := List.exists_mem_of_ne_nil _ (stp_ne ru ht 1)
    have hxt := stp_in ht hx
    obtain ⟨d, hd⟩ := hm x hxt
    obtain ⟨e, he, hte⟩ := stp_near ru hxt (d := d) (t := t) (by rw [hd]; exact ht)
    refine ⟨1 + e, by omega, by omega, (stp_add (c := t) ht 1 e t).mpr ⟨x, hx, hte⟩⟩
  have := fun c hc => grow_stop (U := fun k => stp bs t (k * s)) (ts := tls bs) (fun k => stp_nodup ru ht _) (fun k c hc => stp_in ht hc) (stp_ne ru ht _) (fun k c hc => by
      show c ∈ stp bs t ((k + 1) * s)
      rw [Nat.add_mul, Nat.one_mul, Nat.add_comm]
      exact (stp_add (c := c) ht s _ c).mpr ⟨t, hst, hc⟩) (fun k hk c hc => by
      have hc : c ∈ stp bs t ((k + 1) * s + s) := by rwa [← Nat.succ_mul]
      obtain ⟨x, h1, h2⟩ := (stp_add (c := c) ht _ s c).mp hc
      show c ∈ stp bs t ((k + 1) * s)
      rw [Nat.add_mul, Nat.one_mul]
      exact (stp_add (c := c) ht _ s c).mpr ⟨x, hk x h1, h2⟩) m c hc
  have hfull : stp bs t ((bs.length - 1) * s) = tls bs := by
    rw [full_iff ru ht]
    intro c hc
    have h1 : stp bs t (m * s) = tls bs := full_le ru ht hf (Nat.le_mul_of_pos_right m hs1)
    have := this c (by rw [h1]; exact hc)
    rwa [tls_len] at this
  refine full_le ru ht hfull ?_
  have h1 : (bs.length - 1) * s ≤ bs.length * bs.length := Nat.mul_le_mul (by omega) hsn
  omega
/-! ### laps (k52) -/
theorem stp_ext {h w : Nat} {bs : List (Nat × List (List Nat))} (ru : IsRule h w bs) {t i j : Nat} (ht : t ∈ tls bs) (hm : ∀ c, c ∈ stp bs t i ↔ c ∈ stp bs t j) : stp bs t i = stp bs t j := by
  obtain ⟨q, hq⟩ := stp_filter ru ht i
  obtain ⟨r, hr⟩ := stp_filter ru ht j
  rw [hq, hr] at hm ⊢
  refine List.filter_congr fun c hc => ?_
  have := hm c
  rw [List.mem_filter, List.mem_filter] at this
  rw [Bool.eq_iff_iff]
  exact ⟨fun z => (this.mp ⟨hc, z⟩).2, fun z => (this.mpr ⟨hc, z⟩).2⟩
theorem stp_per {bs : List (Nat × List (List Nat))} {t n s : Nat} (hs : s < n) (he : stp bs t n = stp bs t s) : ∀ k, s ≤ k → stp bs t (k + (n - s)) = stp bs t k := by
  intro k hk
  obtain ⟨d, rfl⟩ := Nat.exists_eq_add_of_le hk
  clear hk
  induction d with
  | zero => rw [Nat.add_zero, show s + (n - s) = n by omega, he]
  | succ d ih =>
    rw [show s + (d + 1) + (n - s) = (s + d + (n - s)) + 1 by omega, show s + (d + 1) = (s + d) + 1 by omega]
    simp only [stp, ih]
theorem stp_pers {bs : List (Nat × List (List Nat))} {t n s : Nat} (hs : s < n) (he : stp bs t n = stp bs t s) (k : Nat) (hk : s ≤ k) : ∀ j, stp bs t (k + j * (n - s)) = stp bs t k
  | 0 => by simp
  | j + 1 => by
    rw [Nat.add_mul, Nat.one_mul, ← Nat.add_assoc, stp_per hs he _ (by omega), stp_pers hs he k hk j]
/-- a tile comes again at laps alone -/
theorem lap_div {h w : Nat} {bs : List (Nat × List (List Nat))} (ru : IsRule h w bs) {t n s a : Nat} (ht : t ∈ tls bs) (hs : s < n) (he : stp bs t n = stp bs t s) (hd : ∀ a b, a < b → b < n → stp bs t a ≠ stp bs t b) (ha : t ∈ stp bs t a) : a % (n - s) = 0 := by
  have inc : ∀ g c, c ∈ stp bs t g → c ∈ stp bs t (g + a) := fun g c hc => by
    rw [Nat.add_comm]
    exact (stp_add (c := c) ht a g c).mpr ⟨t, ha, hc⟩
  have incs : ∀ j g c, c ∈ stp bs t g → c ∈ stp bs t (g + j * a) := by
    intro j
    induction j with
    | zero => intro g c hc; simpa using hc
    | succ j ih =>
      intro g c hc
      rw [Nat.add_mul, Nat.one_mul, ← Nat.add_assoc]
      exact inc _ c (ih g c hc)
  have e1 : stp bs t s = stp bs t (s + a) := stp_ext ru ht fun c => by
    refine ⟨inc s c, fun hc => ?_⟩
    have h1 := incs (n - s - 1) _ c hc
    have h2 : s + a + (n - s - 1) * a = s + a * (n - s) := by
      obtain ⟨m, hm⟩ : ∃ m, n - s = m + 1 := ⟨n - s - 1, by omega⟩
      rw [hm, Nat.add_sub_cancel, Nat.mul_add, Nat.mul_one, Nat.mul_comm a m]
      omega
    rw [h2, stp_pers hs he s (Nat.le_refl _) a] at h1
    exact h1
  have e2 : stp bs t (s + a) = stp bs t (s + a % (n - s)) := by
    have := stp_pers hs he (s + a % (n - s)) (by omega) (a / (n - s))
    rw [← this]
    congr 1
    have := Nat.mod_add_div a (n - s)
    rw [Nat.mul_comm] at this
    omega
  have hr := Nat.mod_lt a (show 0 < n - s by omega)
  refine Classical.byContradiction fun hne => ?_
  exact hd s (s + a % (n - s)) (by omega) (by omega) (e1.trans e2)
/-- where all tiles come of one another, one tile stands at one rest alone -/
theorem lap_one {h w : Nat} {bs : List (Nat × List (List Nat))} (ru : IsRule h w bs) {t u n s g g' b : Nat} (ht : t ∈ tls bs) (hs : s < n) (he : stp bs t n = stp bs t s) (hd : ∀ a b, a < b → b < n → stp bs t a ≠ stp bs t b) (hb : t ∈ stp bs u b) (hg : u ∈ stp bs t g) (hg' : u ∈ stp bs t g') : g % (n - s) = g' % (n - s) := by
  have h1 := lap_div ru ht hs he hd ((stp_add (c := t) ht g b t).mpr ⟨u, hg, hb⟩)
  have h2 := lap_div ru ht hs he hd ((stp_add (c := t) ht g' b t).mpr ⟨u, hg', hb⟩)
  have h3 := Nat.dvd_of_mod_eq_zero h1
  have h4 := Nat.dvd_of_mod_eq_zero h2
  rcases Nat.le_total g g' with h | h
  · have h5 := Nat.dvd_sub h4 h3
    rw [show g' + b - (g + b) = g' - g by omega] at h5
    obtain ⟨j, hj⟩ := h5
    rw [show g' = g + (n - s) * j by omega, Nat.add_mul_mod_self_left]
  · have h5 := Nat.dvd_sub h3 h4
    rw [show g + b - (g' + b) = g - g' by omega] at h5
    obtain ⟨j, hj⟩ := h5
    rw [show g = g' + (n - s) * j by omega, Nat.add_mul_mod_self_left]
theorem rc_stp {h w : Nat} {bs : List (Nat × List (List Nat))} (ru : IsRule h w bs) {t c : Nat} (ht : t ∈ tls bs) : Rc bs t c ↔ ∃ g, c ∈ stp bs t g := by
  constructor
  · intro hc
    induction hc with
    | refl => exact ⟨0, List.mem_singleton.mpr rfl⟩
    | step hx hy ih =>
      obtain ⟨g, hg⟩ := ih
      exact ⟨g + 1, mem_nx.mpr ⟨sgn_in ru (stp_in ht hg) hy, _, hg, hy⟩⟩
  · rintro ⟨g, hg⟩
    induction g generalizing c with
    | zero =>
      rw [List.mem_singleton.mp hg]
      exact .refl
    | succ g ih =>
      obtain ⟨_, y, h1, h2⟩ := mem_nx.mp hg
      exact .step (ih h1) h2
/-- one set at the end, and all tiles come of one another: it has all tiles -/
theorem lap_full {h w : Nat} {bs : List (Nat × List (List Nat))} (ru : IsRule h w bs) {t s : Nat} (ht : t ∈ tls bs) (he : stp bs t (s + 1) = stp bs t s) (hall : ∀ x ∈ tls bs, ∀ u ∈ tls bs, ∃ g, u ∈ stp bs x g) : stp bs t s = tls bs := by
  rw [full_iff ru ht]
  intro u hu
  obtain ⟨x, hx⟩ := List.exists_mem_of_ne_nil _ (stp_ne ru ht 1)
  obtain ⟨d, hd⟩ := hall x (stp_in ht hx) t ht
  have ha : t ∈ stp bs t (1 + d) := (stp_add (c := t) ht 1 d t).mpr ⟨x, hx, hd⟩
  obtain ⟨g, hg⟩ := hall t ht u hu
  have incs : ∀ j, u ∈ stp bs t (g + j * (1 + d)) := by
    intro j
    induction j with
    | zero => simpa using hg
    | succ j ih =>
      rw [Nat.add_mul, Nat.one_mul, ← Nat.add_assoc, Nat.add_comm]
      exact (stp_add (c := u) ht (1 + d) _ u).mpr ⟨t, ha, ih⟩
  have h1 := incs s
  have h2 : s ≤ g + s * (1 + d) := Nat.le_trans (Nat.le_mul_of_pos_right s (by omega)) (Nat.le_add_left _ _)
  obtain ⟨j, hj⟩ := Nat.exists_eq_add_of_le h2
  have h3 := stp_pers (bs := bs) (t := t) (n := s + 1) (s := s) (by omega) he s (Nat.le_refl _) j
  rw [show s + j * (s + 1 - s) = g + s * (1 + d) by rw [hj]; simp] at h3
  rw [h3] at h1
  exact h1
/-- a tile of a rule that does not mix, though all its tiles come of one another: it never stands itself at the rest 1 -/
theorem lap_never {h w : Nat} {bs : List (Nat × List (List Nat))} (ru : IsRule h w bs) {t n s : Nat} (ht : t ∈ tls bs) (hs : s < n) (he : stp bs t n = stp bs t s) (hd : ∀ a b, a < b → b < n → stp bs t a ≠ stp bs t b) (hall : ∀ x ∈ tls bs, ∀ u ∈ tls bs, ∃ g, u ∈ stp bs x g) (hno : ∀ k, stp bs t k ≠ tls bs) : 1 < n - s ∧ ∀ g, g % (n - s) = 1 → t ∉ stp bs t g := by
  have h1 : 1 < n - s := by
    refine Classical.byContradiction fun hlt => ?_
    obtain rfl : n = s + 1 := by omega
    exact hno s (lap_full ru ht he hall)
  refine ⟨h1, fun g hg hin => ?_⟩
  have := lap_one ru ht hs he hd (u := t) (b := 0) (g := g) (g' := 0) (List.mem_singleton.mpr rfl) hin (List.mem_singleton.mpr rfl)
  rw [hg, Nat.zero_mod] at this
  omega
theorem cat_l {a b : List P} (h : a.length + b.length ≤ 16777216) : catP [.lst a, .lst b] = some (.lst (a ++ b)) := if_pos (show _ ≤ line from h)
@[simp] theorem kind_k12_0 (k : Nat) (fs : List P) : run2 PR (k + 1) 227 [.x 0 fs] = .ok (.p (.str [102, 108, 111, 111, 114])) [] := by
  rw [U_law_kind_of_k12]
  simp [ir_law_kind_of_k12, cat_l, lcountP, indexP, P.shp, P.shps, P.eqv, ixP, atP, ixN', List.findIdx?_cons]
@[simp] theorem kind_k12_1 (k : Nat) (fs : List P) : run2 PR (k + 1) 227 [.x 1 fs] = .ok (.p (.str [112, 108, 97, 99, 101])) [] := by
  rw [U_law_kind_of_k12]
  simp [ir_law_kind_of_k12, cat_l, lcountP, indexP, P.shp, P.shps, P.eqv, ixP, atP, ixN', List.findIdx?_cons]
@[simp] theorem kind_k12_2 (k : Nat) (fs : List P) : run2 PR (k + 1) 227 [.x 2 fs] = .ok (.p (.str [110, 117, 109, 98, 101, 114])) [] := by
  rw [U_law_kind_of_k12]
  simp [ir_law_kind_of_k12, cat_l, lcountP, indexP, P.shp, P.shps, P.eqv, ixP, atP, ixN', List.findIdx?_cons]
@[simp] theorem kind_k12_3 (k : Nat) (fs : List P) : run2 PR (k + 1) 227 [.x 3 fs] = .ok (.p (.str [114, 111, 119])) [] := by
  rw [U_law_kind_of_k12]
  simp [ir_law_kind_of_k12, cat_l, lcountP, indexP, P.shp, P.shps, P.eqv, ixP, atP, ixN', List.findIdx?_cons]
@[simp] theorem kind_k12_4 (k : Nat) (fs : List P) : run2 PR (k + 1) 227 [.x 4 fs] = .ok (.p (.str [117, 110, 108, 105, 107, 101])) [] := by
  rw [U_law_kind_of_k12]
  simp [ir_law_kind_of_k12, cat_l, lcountP, indexP, P.shp, P.shps, P.eqv, ixP, atP, ixN', List.findIdx?_cons]
@[simp] theorem kind_k12_5 (k : Nat) (fs : List P) : run2 PR (k + 1) 227 [.x 5 fs] = .ok (.p (.str [116, 105, 108, 101])) [] := by
  rw [U_law_kind_of_k12]
  simp [ir_law_kind_of_k12, cat_l, lcountP, indexP, P.shp, P.shps, P.eqv, ixP, atP, ixN', List.findIdx?_cons]
@[simp] theorem kind_k12_6 (k : Nat) (fs : List P) : run2 PR (k + 1) 227 [.x 6 fs] = .ok (.p (.str [114, 117, 108, 101])) [] := by
  rw [U_law_kind_of_k12]
  simp [ir_law_kind_of_k12, cat_l, lcountP, indexP, P.shp, P.shps, P.eqv, ixP, atP, ixN', List.findIdx?_cons]
@[simp] theorem kind_k12_7 (k : Nat) (fs : List P) : run2 PR (k + 1) 227 [.x 7 fs] = .ok (.p (.str [116, 101, 120, 116])) [] := by
  rw [U_law_kind_of_k12]
  simp [ir_law_kind_of_k12, cat_l, lcountP, indexP, P.shp, P.shps, P.eqv, ixP, atP, ixN', List.findIdx?_cons]
@[simp] theorem kind_k12_8 (k : Nat) (fs : List P) : run2 PR (k + 1) 227 [.x 8 fs] = .ok (.p (.str [103, 114, 101, 97, 116])) [] := by
  rw [U_law_kind_of_k12]
  simp [ir_law_kind_of_k12, cat_l, lcountP, indexP, P.shp, P.shps, P.eqv, ixP, atP, ixN', List.findIdx?_cons]
/-- no script's list -/
def plainV : P → Bool
  | .scr _ => false
  | _ => true
def isw : P → Bool
  | .int _ => true
  | _ => false
@[simp] theorem is_whole_any {x : P} (hp : plainV x = true) (k : Nat) : run2 PR (k + 1) 62 [.p x] = .ok (.p (.bl (isw x))) [] := by
  rw [U_is_whole]
  cases x with
  | scr _ => cases hp
  | _ => simp [ir_is_whole, isw]
@[simp] theorem law_whole_any {x : P} (hp : plainV x = true) (k : Nat) : run2 PR (k + 1) 413 [.p x] = .ok (.p (.bl (isw x))) [] := by
  rw [U_law_whole]
  cases x with
  | scr _ => cases hp
  | _ => simp [ir_law_whole, isw]
theorem pickL_el {l : List P} {v : Nat} (h : v < l.length) : ∃ x, ixP [.lst l, .int v] = some x ∧ x ∈ l := by
  refine ⟨l[v], ?_, List.getElem_mem h⟩
  rw [ix_ln h]
  exact List.getElem?_eq_getElem h

/-! ### a function gone along -/
def itF (f : Nat → Nat) (t : Nat) : Nat → Nat
  | 0 => t
  | n + 1 => f (itF f t n)
def orb (f : Nat → Nat) (t n : Nat) : List Nat := (List.range n).map (itF f t)
theorem orb_len (f : Nat → Nat) (t n : Nat) : (orb f t n).length = n := by simp [orb]
theorem orb_succ (f : Nat → Nat) (t n : Nat) : orb f t (n + 1) = orb f t n ++ [itF f t n] := by simp [orb, List.range_succ]
theorem orb_at {f : Nat → Nat} {t n i : Nat} (hi : i < (orb f t n).length) : (orb f t n)[i] = itF f t i := by simp [orb]
theorem mem_orb {f : Nat → Nat} {t n c : Nat} : c ∈ orb f t n ↔ ∃ k, k < n ∧ itF f t k = c := by simp [orb]
theorem itF_in {f : Nat → Nat} {t : Nat} {S : List Nat} (ht : t ∈ S) (hf : ∀ c ∈ S, f c ∈ S) : ∀ n, itF f t n ∈ S
  | 0 => ht
  | n + 1 => hf _ (itF_in ht hf n)
theorem orb_room {f : Nat → Nat} {t n : Nat} {S : List Nat} (hin : ∀ i, itF f t i ∈ S) (hd : ∀ a b, a < b → b < n → itF f t a ≠ itF f t b) : n ≤ S.length := by
  have h1 : (orb f t n).Nodup := by
    rw [List.nodup_iff_pairwise_ne, List.pairwise_iff_getElem]
    intro i j hi hj hij
    rw [orb_at, orb_at]
    rw [orb_len] at hj
    exact hd i j hij hj
  have := sub_len h1 (ts := S) fun c hc => by
    obtain ⟨k, _, rfl⟩ := mem_orb.mp hc
    exact hin k
  rwa [orb_len] at this
/-- where it comes again: s, after n -/
structure Ring (f : Nat → Nat) (t n s : Nat) : Prop where
  lt : s < n
  eq : itF f t n = itF f t s
  ne : ∀ a b, a < b → b < n → itF f t a ≠ itF f t b
theorem Ring.uni {f : Nat → Nat} {t n s n' s' : Nat} (r : Ring f t n s) (r' : Ring f t n' s') : n = n' ∧ s = s' := by
  have h1 : n = n' := by
    apply Classical.byContradiction
    intro h
    rcases Nat.lt_or_gt_of_ne h with h | h
    · exact r'.ne s n r.lt h r.eq.symm
    · exact r.ne s' n' r'.lt h r'.eq.symm
  subst h1
  refine ⟨rfl, ?_⟩
  have e := r.eq.symm.trans r'.eq
  apply Classical.byContradiction
  intro h
  rcases Nat.lt_or_gt_of_ne h with h | h
  · exact r.ne s s' h r'.lt e
  · exact r.ne s' s h r.lt e.symm
theorem itF_add (f : Nat → Nat) (t a : Nat) : ∀ b, itF f t (a + b) = itF f (itF f t a) b
  | 0 => rfl
  | b + 1 => by show f (itF f t (a + b)) = _; rw [itF_add f t a b]; rfl
theorem Ring.per {f : Nat → Nat} {t n s : Nat} (r : Ring f t n s) (j : Nat) : itF f t (n + j) = itF f t (s + j) := by rw [itF_add, itF_add, r.eq]
theorem Ring.lap {f : Nat → Nat} {t n s : Nat} (r : Ring f t n s) (q j : Nat) : itF f t (s + j + q * (n - s)) = itF f t (s + j) := by
  have := r.lt
  induction q with
  | zero => simp
  | succ q ih =>
    have e1 : s + j + (q + 1) * (n - s) = n + (j + q * (n - s)) := by rw [Nat.add_mul]; omega
    rw [e1, r.per, show s + (j + q * (n - s)) = s + j + q * (n - s) by omega, ih]
theorem Ring.at_ {f : Nat → Nat} {t n s : Nat} (r : Ring f t n s) {g : Nat} (hg : s ≤ g) : itF f t (s + (g - s) % (n - s)) = itF f t g := by
  rw [← r.lap ((g - s) / (n - s))]
  congr 1
  have := Nat.mod_add_div (g - s) (n - s)
  rw [Nat.mul_comm] at this
  omega
theorem in_orb (c : Nat) (cs : List Nat) : inQ [sgP c, .lst (cs.map sgP)] = some (.bl (decide (c ∈ cs))) := in_sgs c cs
theorem index_sg {G : List Nat} {c : Nat} (h : c ∈ G) : ∃ j, indexP [.lst (G.map sgP), sgP c] = some (.int (j : Nat)) ∧ ∃ hj : j < G.length, G[j] = c := by
  have ev : ∀ y : Nat, P.eqv (sgP y) (sgP c) = decide (y = c) := fun y => by simp [sgP, P.eqv]
  have h1 : (P.shp 59 (sgP c) && P.shps 59 (G.map sgP)) = true := by
    rw [shps_sgs 59 G]
    simp [sgP, P.shp]
  have h2 : indexP [.lst (G.map sgP), sgP c] = ((G.map sgP).findIdx? fun y => P.eqv y (sgP c)).map fun j => .int (j : Nat) := by
    show (if P.shp 59 (sgP c) && P.shps 59 (G.map sgP) then _ else none) = _
    rw [if_pos h1]
  cases hf : (G.map sgP).findIdx? fun y => P.eqv y (sgP c) with
  | none =>
    rw [List.findIdx?_eq_none_iff] at hf
    have := hf (sgP c) (List.mem_map.mpr ⟨c, h, rfl⟩)
    rw [ev] at this
    simp at this
  | some j =>
    rw [h2, hf]
    rw [List.findIdx?_eq_some_iff_getElem] at hf
    obtain ⟨hj, h3, h4⟩ := hf
    rw [List.length_map] at hj
    rw [List.getElem_map, ev, decide_eq_true_eq] at h3
    exact ⟨j, rfl, hj, h3⟩
end DL

set_option maxHeartbeats 1000000
namespace DL
/-! data without a script's list -/
mutual
def deepV : P → Bool
  | .scr _ => false
  | .tup xs => deepVs xs
  | .lst xs => deepVs xs
  | _ => true
def deepVs : List P → Bool
  | [] => true
  | x :: r => deepV x && deepVs r
end
theorem deepVs_iff : ∀ xs : List P, deepVs xs = true ↔ ∀ x ∈ xs, deepV x = true
  | [] => by simp [deepVs]
  | x :: r => by simp [deepVs, deepVs_iff r]
theorem deep_plain {x : P} (h : deepV x = true) : plainV x = true := by
  cases x <;> first | rfl | simp [deepV] at h
theorem deepVs_sg (xs : List Nat) : deepVs (xs.map sgP) = true := by
  rw [deepVs_iff]
  intro x hx
  obtain ⟨c, _, rfl⟩ := List.mem_map.mp hx
  rfl
theorem deepVs_dg (xs : List (Nat × Nat)) : deepVs (xs.map dgP) = true := by
  rw [deepVs_iff]
  intro x hx
  obtain ⟨c, _, rfl⟩ := List.mem_map.mp hx
  simp [dgP, deepV, deepVs]
theorem deepVs_app {a b : List P} (h1 : deepVs a = true) (h2 : deepVs b = true) : deepVs (a ++ b) = true := by
  rw [deepVs_iff] at *
  intro x hx
  rcases List.mem_append.mp hx with h | h
  · exact h1 x h
  · exact h2 x h
theorem deepVs_sub {a b : List P} (h1 : deepVs a = true) (h2 : ∀ x ∈ b, x ∈ a) : deepVs b = true := by
  rw [deepVs_iff] at *
  exact fun x hx => h1 x (h2 x hx)
theorem find3 {chk : E2 → Bool} {f : P → E2 → S2} (g : P → Bool) (d : D2) (mk : Option V → E2) (hc : ∀ v, chk (mk v) = true) : ∀ {xs : List P} {v : Option V}, (∀ x ∈ xs, ∀ v, f x (mk v) = if g x then .ret d (mk (some (.p x))) else .nx (mk (some (.p x)))) → ∃ v', forL2 chk f xs (mk v) = if xs.any g then .ret d (mk v') else .nx (mk v')
  | [], v, h => ⟨v, by simp [forL2, hc]⟩
  | x :: r, v, h => by
    have q1 := h x List.mem_cons_self v
    unfold forL2
    rw [if_pos (hc _), q1]
    cases hg : g x with
    | true => exact ⟨some (.p x), by simp [hg]⟩
    | false =>
      obtain ⟨v', q2⟩ := find3 g d mk hc (xs := r) (v := some (.p x)) fun y hy => h y (List.mem_cons_of_mem _ hy)
      exact ⟨v', by simpa [hg] using q2⟩
theorem find3e {chk : E2 → Bool} {f : P → E2 → S2} {xs : List P} {v : Option V} {r : S2} (g : P → Bool) (d : D2) (mk : Option V → E2) (hr : forL2 chk f xs (mk v) = r) (hc : ∀ v, chk (mk v) = true) (h : ∀ x ∈ xs, ∀ v, f x (mk v) = if g x then .ret d (mk (some (.p x))) else .nx (mk (some (.p x)))) : ∃ v', r = if xs.any g then .ret d (mk v') else .nx (mk v') := by
  obtain ⟨v', q⟩ := find3 g d mk hc h
  exact ⟨v', hr.symm.trans q⟩
theorem comp_any {chk : E2 → Bool} {f : P → E2 → R2 (Option P)} (g : P → P) {xs : List P} {e : E2} (hc : chk e = true) (h : ∀ x ∈ xs, f x e = .ok (some (g x)) e) : compL2 chk f xs e = .ok (xs.map g) e := by
  have := comp2_map (f := f) id g (xs := xs) hc h
  rwa [List.map_id] at this
theorem allP_any {α : Type} (g : α → Bool) (xs : List α) : allP [.lst (xs.map fun x => P.bl (g x))] = some (.bl (xs.all g)) := by
  simp only [allP, bools_map, Option.map_some]
  congr 2
  simp [List.all_map, Function.comp_def]
/-! digits by anybody -/
def digOk (h w : Nat) : P → Bool
  | .tup [.int a, .int b] => decide (0 ≤ a) && decide (a < h) && (decide (0 ≤ b) && decide (b < w))
  | _ => false
def digsB (h w : Nat) : P → Bool
  | .lst ds => ds.all (digOk h w)
  | _ => false
def pairB : P → Bool
  | .tup [.int _, .int _] => true
  | _ => false
theorem digOk_pair {h w : Nat} {x : P} (hx : digOk h w x = true) : ∃ d : Nat × Nat, x = dgP d ∧ d.1 < h ∧ d.2 < w := by
  unfold digOk at hx
  split at hx
  · rename_i a b
    simp only [Bool.and_eq_true, decide_eq_true_eq] at hx
    obtain ⟨⟨h1, h2⟩, h3, h4⟩ := hx
    exact ⟨(a.toNat, b.toNat), by simp [dgP, Int.toNat_of_nonneg h1, Int.toNat_of_nonneg h3], by simp; omega, by simp; omega⟩
  · cases hx
theorem digsB_form {h w : Nat} {x : P} (hx : digsB h w x = true) : ∃ ds : List (Nat × Nat), x = .lst (ds.map dgP) ∧ DigOk h w ds := by
  unfold digsB at hx
  split at hx
  · rename_i ds
    induction ds with
    | nil => exact ⟨[], rfl, by intro d hd; cases hd⟩
    | cons y r ih =>
      simp only [List.all_cons, Bool.and_eq_true] at hx
      obtain ⟨d, rfl, h1, h2⟩ := digOk_pair hx.1
      obtain ⟨ds, e, hd⟩ := ih hx.2
      refine ⟨d :: ds, by rw [List.map_cons, P.lst.inj e], ?_⟩
      intro q hq
      rcases List.mem_cons.mp hq with rfl | hq
      · exact ⟨h1, h2⟩
      · exact hd q hq
  · cases hx
theorem isw_int {x : P} (h : isw x = true) : ∃ i, x = .int i := by
  cases x <;> first | exact ⟨_, rfl⟩ | cases h
theorem pair_cases (x : P) : (∃ a b, x = .tup [a, b]) ∨ (∃ xs : List P, x = .tup xs ∧ xs.length ≠ 2) ∨ ∀ xs, x ≠ .tup xs := by
  cases x with
  | tup xs =>
    match xs with
    | [a, b] => exact .inl ⟨a, b, rfl⟩
    | [] => exact .inr (.inl ⟨_, rfl, by simp⟩)
    | [a] => exact .inr (.inl ⟨_, rfl, by simp⟩)
    | a :: b :: c :: r => exact .inr (.inl ⟨_, rfl, by simp⟩)
  | _ => exact .inr (.inr fun xs h => by cases h)
theorem isi_notup {x : P} (hp : plainV x = true) (h : ∀ xs, x ≠ .tup xs) : isiP "tuple" [x] = some (.bl false) := by
  cases x <;> first | rfl | exact absurd rfl (h _) | cases hp
theorem isi_tupl (xs : List P) : isiP "tuple" [.tup xs] = some (.bl true) := rfl
theorem isi_lstl (xs : List P) : isiP "list" [.lst xs] = some (.bl true) := rfl
theorem isi_nolst {x : P} (hp : plainV x = true) (h : ∀ xs, x ≠ .lst xs) : isiP "list" [x] = some (.bl false) := by
  cases x <;> first | rfl | exact absurd rfl (h _) | cases hp
theorem digOk_no {h w : Nat} {x : P} (hx : ∀ a b, x ≠ .tup [a, b]) : digOk h w x = false := by
  unfold digOk
  split
  · exact absurd rfl (hx _ _)
  · rfl
theorem digOk_isw {h w : Nat} {a b : P} (hx : (isw a && isw b) = false) : digOk h w (.tup [a, b]) = false := by
  unfold digOk
  split
  · rename_i e
    cases e
    cases hx
  · rfl
theorem digits_good_any {h w : Nat} {bs : List (Nat × List (List Nat))} {x : P} (hx : deepV x = true) (k : Nat) : run2 PR (k + 2) 41 [.p (ruleP h w bs), .p x] = .ok (.p (.bl (digsB h w x))) [] := by
  have hp := deep_plain hx
  rw [U_digits_good]
  by_cases hl : ∃ xs, x = .lst xs
  · obtain ⟨xs, rfl⟩ := hl
    simp only [deepV] at hx
    rw [deepVs_iff] at hx
    simp [-Int.natCast_add, -Int.natCast_mul, -Int.natCast_ediv, -Int.natCast_emod, -Int.natCast_pow, ir_digits_good]
    generalize hr : forL2 _ _ _ _ = R
    obtain ⟨v', e⟩ := find3e (fun y => !digOk h w y) (.p (.bl false)) (fun v => [some (.p (ruleP h w bs)), some (.p (.lst xs)), v]) hr (fun v => by simp) (by
      intro y hy v
      have yd := hx y hy
      have yp := deep_plain yd
      rcases pair_cases y with ⟨a, b, rfl⟩ | ⟨ys, rfl, hn⟩ | hn
      · simp only [deepV, deepVs, Bool.and_eq_true] at yd
        have ap := deep_plain yd.1
        have bp := deep_plain yd.2.1
        by_cases ha : isw a = true
        · by_cases hb : isw b = true
          · obtain ⟨i, rfl⟩ := isw_int ha
            obtain ⟨j, rfl⟩ := isw_int hb
            by_cases c1 : 0 ≤ i <;> by_cases c2 : i < h <;> by_cases c3 : 0 ≤ j <;> by_cases c4 : j < w <;> simp [-Int.natCast_add, -Int.natCast_mul, -Int.natCast_ediv, -Int.natCast_emod, -Int.natCast_pow, foI, digOk, c1, c2, c3, c4, isw]
          · simp [-Int.natCast_add, -Int.natCast_mul, -Int.natCast_ediv, -Int.natCast_emod, -Int.natCast_pow, foI, is_whole_any ap, is_whole_any bp, ha, hb, digOk_isw]
        · simp [-Int.natCast_add, -Int.natCast_mul, -Int.natCast_ediv, -Int.natCast_emod, -Int.natCast_pow, foI, is_whole_any ap, ha, digOk_isw]
      · have : ¬ ((ys.length : Int) = 2) := by omega
        simp [-Int.natCast_add, -Int.natCast_mul, -Int.natCast_ediv, -Int.natCast_emod, -Int.natCast_pow, foI, this, digOk_no (h := h) (w := w) (x := .tup ys) (fun a b e => hn (by rw [P.tup.inj e]; rfl))]
      · simp [-Int.natCast_add, -Int.natCast_mul, -Int.natCast_ediv, -Int.natCast_emod, -Int.natCast_pow, foI, isi_notup yp hn, digOk_no (h := h) (w := w) (x := y) (fun a b e => hn _ e)])
    have ea : (xs.any fun y => !digOk h w y) = !(xs.all (digOk h w)) := by simp [List.all_eq_not_any_not]
    rw [e, ea]
    cases hb : xs.all (digOk h w) <;> simp [digsB, hb]
  · have hl : ∀ xs, x ≠ .lst xs := fun xs e => hl ⟨xs, e⟩
    have e : digsB h w x = false := by
      unfold digsB
      split
      · exact absurd rfl (hl _)
      · rfl
    simp [-Int.natCast_add, -Int.natCast_mul, -Int.natCast_ediv, -Int.natCast_emod, -Int.natCast_pow, ir_digits_good, isi_nolst hp hl, e]
theorem law_digits_any {h w : Nat} {bs : List (Nat × List (List Nat))} {x : P} (hx : deepV x = true) (k : Nat) : run2 PR (k + 2) 108 [.p (ruleP h w bs), .p x] = .ok (.p (.bl (digsB h w x))) [] := by
  have hp := deep_plain hx
  rw [U_law_digits_good]
  by_cases hl : ∃ xs, x = .lst xs
  · obtain ⟨xs, rfl⟩ := hl
    simp only [deepV] at hx
    rw [deepVs_iff] at hx
    simp [-Int.natCast_add, -Int.natCast_mul, -Int.natCast_ediv, -Int.natCast_emod, -Int.natCast_pow, ir_law_digits_good]
    generalize hr : forL2 _ _ _ _ = R
    obtain ⟨v', e⟩ := find3e (fun y => !digOk h w y) (.p (.bl false)) (fun v => [some (.p (ruleP h w bs)), some (.p (.lst xs)), v, none]) hr (fun v => by simp) (by
      intro y hy v
      have yd := hx y hy
      have yp := deep_plain yd
      rcases pair_cases y with ⟨a, b, rfl⟩ | ⟨ys, rfl, hn⟩ | hn
      · simp only [deepV, deepVs, Bool.and_eq_true] at yd
        have ap := deep_plain yd.1
        have bp := deep_plain yd.2.1
        simp [-Int.natCast_add, -Int.natCast_mul, -Int.natCast_ediv, -Int.natCast_emod, -Int.natCast_pow, foI]
        rw [comp_any (fun x => .bl (isw x)) (by simp) fun z hz => by
          have : plainV z = true := by
            simp at hz
            rcases hz with rfl | rfl <;> assumption
          simp [-Int.natCast_add, -Int.natCast_mul, -Int.natCast_ediv, -Int.natCast_emod, -Int.natCast_pow, cpI, law_whole_any this]]
        rw [show [a, b].map (fun x => P.bl (isw x)) = [a, b].map fun x => P.bl (isw x) from rfl]
        have al := allP_any isw [a, b]
        by_cases ha : isw a = true
        · by_cases hb : isw b = true
          · obtain ⟨i, rfl⟩ := isw_int ha
            obtain ⟨j, rfl⟩ := isw_int hb
            simp [isw] at al
            by_cases c1 : 0 ≤ i <;> by_cases c2 : i < h <;> by_cases c3 : 0 ≤ j <;> by_cases c4 : j < w <;> simp [-Int.natCast_add, -Int.natCast_mul, -Int.natCast_ediv, -Int.natCast_emod, -Int.natCast_pow, al, digOk, c1, c2, c3, c4, isw]
          · simp [ha, hb] at al
            simp [-Int.natCast_add, -Int.natCast_mul, -Int.natCast_ediv, -Int.natCast_emod, -Int.natCast_pow, al, ha, hb, digOk_isw]
        · simp [ha] at al
          simp [-Int.natCast_add, -Int.natCast_mul, -Int.natCast_ediv, -Int.natCast_emod, -Int.natCast_pow, al, ha, digOk_isw]
      · have : ¬ ((ys.length : Int) = 2) := by omega
        simp [-Int.natCast_add, -Int.natCast_mul, -Int.natCast_ediv, -Int.natCast_emod, -Int.natCast_pow, foI, this, digOk_no (h := h) (w := w) (x := .tup ys) (fun a b e => hn (by rw [P.tup.inj e]; rfl))]
      · simp [-Int.natCast_add, -Int.natCast_mul, -Int.natCast_ediv, -Int.natCast_emod, -Int.natCast_pow, foI, isi_notup yp hn, digOk_no (h := h) (w := w) (x := y) (fun a b e => hn _ e)])
    have ea : (xs.any fun y => !digOk h w y) = !(xs.all (digOk h w)) := by simp [List.all_eq_not_any_not]
    rw [e, ea]
    cases hb : xs.all (digOk h w) <;> simp [digsB, hb]
  · have hl : ∀ xs, x ≠ .lst xs := fun xs e => hl ⟨xs, e⟩
    have e : digsB h w x = false := by
      unfold digsB
      split
      · exact absurd rfl (hl _)
      · rfl
    simp [-Int.natCast_add, -Int.natCast_mul, -Int.natCast_ediv, -Int.natCast_emod, -Int.natCast_pow, ir_law_digits_good, isi_nolst hp hl, e]
/-! lines by anybody -/
def tileOk (bs : List (Nat × List (List Nat))) : P → Bool
  | .str [c] => decide (c ∈ tls bs)
  | _ => false
theorem tileOk_form {bs : List (Nat × List (List Nat))} {x : P} (hx : tileOk bs x = true) : ∃ c ∈ tls bs, x = sgP c := by
  unfold tileOk at hx
  split at hx
  · rename_i c
    exact ⟨c, by simpa using hx, rfl⟩
  · cases hx
theorem tilesOk_form {bs : List (Nat × List (List Nat))} : ∀ {ts : List P}, ts.all (tileOk bs) = true → ∃ cs : List Nat, ts = cs.map sgP ∧ ∀ c ∈ cs, c ∈ tls bs
  | [], _ => ⟨[], rfl, by simp⟩
  | t :: r, h => by
    simp only [List.all_cons, Bool.and_eq_true] at h
    obtain ⟨c, hc, rfl⟩ := tileOk_form h.1
    obtain ⟨cs, rfl, h2⟩ := tilesOk_form h.2
    exact ⟨c :: cs, rfl, fun d hd => (List.mem_cons.mp hd).elim (fun e => e ▸ hc) (h2 d)⟩
theorem lineF_eq {bs : List (Nat × List (List Nat))} {t : Nat} {cs : List Nat} {ds : List (Nat × Nat)} (h0 : cs[0]? = some t) (hl : cs.length = ds.length + 1) : lineF bs t ds = cs ↔ ∀ i d, ds[i]? = some d → cs[i + 1]? = some (stepF bs (cs.getD i 0) d) := by
  have at_ : ∀ i, i < ds.length + 1 → (lineF bs t ds)[i]? = some (lastF bs t (ds.take i)) := fun i hi => by
    simp [lineF, List.getElem?_range hi]
  constructor
  · intro e i d hd
    obtain ⟨hi, _⟩ := List.getElem?_eq_some_iff.mp hd
    have a1 := at_ i (by omega)
    have a2 := at_ (i + 1) (by omega)
    rw [e] at a1 a2
    rw [a2, last_take hd, List.getD_eq_getElem?_getD, a1]
    rfl
  · intro h
    have key : ∀ i, i < ds.length + 1 → cs[i]? = some (lastF bs t (ds.take i)) := by
      intro i
      induction i with
      | zero => intro _; simpa [lastF] using h0
      | succ i ih =>
        intro hi
        have hd : ds[i]? = some ds[i] := List.getElem?_eq_getElem (by omega)
        rw [h i _ hd, last_take hd, List.getD_eq_getElem?_getD, ih (by omega)]
        rfl
    refine List.ext_getElem? fun i => ?_
    by_cases hi : i < ds.length + 1
    · rw [at_ i hi, key i hi]
    · rw [List.getElem?_eq_none (by simp [lineF]; omega), List.getElem?_eq_none (by omega)]
theorem tile_any {h w : Nat} {bs : List (Nat × List (List Nat))} (ru : IsRule h w bs) {x : P} (hp : plainV x = true) (k : Nat) : ∃ b, run2 PR (k + 2) 61 [.p x] = .ok (.p (.bl b)) [] ∧ (b = false → tileOk bs x = false) ∧ (b = true → ∃ c, x = sgP c) := by
  rw [U_is_tile]
  cases x with
  | str s =>
    match s with
    | [] => exact ⟨false, by simp [ir_is_tile], by simp [tileOk], by simp⟩
    | [c] =>
      refine ⟨decide (c ∈ lettersL), by simp [ir_is_tile, inSignP, lettersL], fun hc => ?_, fun _ => ⟨c, rfl⟩⟩
      have hc' : c ∉ lettersL := of_decide_eq_false hc
      simp only [tileOk, decide_eq_false_iff_not]
      intro hct
      obtain ⟨b, hb, rfl⟩ := List.mem_map.mp hct
      have := ru.low b hb
      have mm : ∀ c, c < 123 → 97 ≤ c → c ∈ lettersL := by decide
      exact hc' (mm _ (by omega) this.1)
    | a :: b :: r => exact ⟨false, by simp [-Int.natCast_add, -Int.natCast_mul, -Int.natCast_ediv, -Int.natCast_emod, -Int.natCast_pow, ir_is_tile, (show ¬ ((r.length + 1 + 1 : Nat) : Int) = 1 by omega)], by simp [tileOk], by simp⟩
  | scr _ => cases hp
  | _ => exact ⟨false, by simp [ir_is_tile], by simp [tileOk], by simp⟩
theorem in_dk_str (bs : List (Nat × List (List Nat))) (s : List Nat) (vs : List P) : inQ [.str s, .dic ((tls bs).map sgP) vs] = some (.bl (tileOk bs (.str s))) := by
  have h1 : (isKeyP (.str s) && ((tls bs).map sgP).all (fun j => isTupP j == isTupP (.str s))) = true := by
    simp only [Bool.and_eq_true, List.all_eq_true, List.mem_map]
    refine ⟨rfl, ?_⟩
    rintro x ⟨q, _, rfl⟩
    rfl
  show (if (isKeyP (.str s) && ((tls bs).map sgP).all (fun j => isTupP j == isTupP (.str s))) then some (P.bl (decide (.str s ∈ (tls bs).map sgP))) else none) = _
  rw [if_pos h1]
  congr 2
  rw [Bool.eq_iff_iff, decide_eq_true_eq, List.mem_map]
  constructor
  · rintro ⟨c, hc, e⟩
    have e := P.str.inj e
    subst e
    simpa [tileOk] using hc
  · intro h
    obtain ⟨c, hc, e⟩ := tileOk_form h
    exact ⟨c, hc, e.symm⟩
theorem eq_sgs (a b : List Nat) : eqP [.lst (a.map sgP), .lst (b.map sgP)] = some (.bl (decide (a = b))) := by
  have h1 := shps_map (f := sgP) (n := 59) (fun a => shp_sg 59 a) a
  have h2 := shps_map (f := sgP) (n := 59) (fun a => shp_sg 59 a) b
  simp only [eqP, P.shp, h1, h2, Bool.and_self, if_true, P.eqv, eqvs_sg]
theorem line_holds_any {h w : Nat} {bs : List (Nat × List (List Nat))} {x : P} (ru : IsRule h w bs) (hx : deepV x = true) (hlen : ∀ ts ds, x = .tup [.lst ts, .lst ds] → ds.length ≤ 1000) (k : Nat) : ∃ b, run2 PR (k + 3) 423 [.p (ruleP h w bs), .p x] = .ok (.p (.bl b)) [] ∧ run2 PR (k + 3) 122 [.p (ruleP h w bs), .p x] = .ok (.p (.bl b)) [] := by
  have hp := deep_plain hx
  rw [U_line_holds, U_law_due_of_k13]
  rcases pair_cases x with ⟨A, B, rfl⟩ | ⟨ys, rfl, hn⟩ | hn
  · simp only [deepV, deepVs, Bool.and_eq_true] at hx
    have dA := hx.1
    have dB := hx.2.1
    have pA := deep_plain dA
    have dg := fun k => digits_good_any (h := h) (w := w) (bs := bs) dB k
    have dl := fun k => law_digits_any (h := h) (w := w) (bs := bs) dB k
    by_cases hl : ∃ ts, A = .lst ts
    · obtain ⟨ts, rfl⟩ := hl
      simp only [deepV] at dA
      rw [deepVs_iff] at dA
      by_cases hd : digsB h w B = true
      · obtain ⟨ds, rfl, ok⟩ := digsB_form hd
        have hl10 := hlen _ _ rfl
        simp at hl10
        by_cases hle : ts.length = ds.length + 1
        · have hle' : (ts.length : Int) = (ds.length : Int) + 1 := by omega
          have cp : ∀ y ∈ ts, ∃ b, (∀ k, ∃ b, run2 PR (k + 2) 61 [.p y] = .ok (.p (.bl b)) [] ∧ (b = false → tileOk bs y = false) ∧ (b = true → ∃ c, y = sgP c)) ∧ b = 1 := fun y hy => ⟨1, fun k => tile_any ru (deep_plain (dA y hy)) k, rfl⟩
          have al := allP_any (tileOk bs) ts
          have main : ∀ b, (ts.all (tileOk bs) = false → b = false) → (∀ cs, ts = cs.map sgP → (∀ c ∈ cs, c ∈ tls bs) → b = decide (lineF bs (cs.getD 0 0) ds = cs)) → run2 PR (k + 3) 423 [.p (ruleP h w bs), .p (.tup [.lst ts, .lst (ds.map dgP)])] = .ok (.p (.bl b)) [] ∧ run2 PR (k + 3) 122 [.p (ruleP h w bs), .p (.tup [.lst ts, .lst (ds.map dgP)])] = .ok (.p (.bl b)) [] := by
            intro b hb1 hb2
            constructor
            · rw [U_line_holds]
              simp [-Int.natCast_add, -Int.natCast_mul, -Int.natCast_ediv, -Int.natCast_emod, -Int.natCast_pow, ir_line_holds, dg, dl, hd, hle, hle']
              rw [comp_any (fun y => .bl (tileOk bs y)) (by simp) fun y hy => by
                obtain ⟨b, e1, e2, e3⟩ := tile_any ru (deep_plain (dA y hy)) k
                cases b with
                | false => simp [-Int.natCast_add, -Int.natCast_mul, -Int.natCast_ediv, -Int.natCast_emod, -Int.natCast_pow, cpI, e1, e2 rfl]
                | true =>
                  obtain ⟨c, rfl⟩ := e3 rfl
                  have e4 : tileOk bs (sgP c) = decide (c ∈ tls bs) := rfl
                  simp [-Int.natCast_add, -Int.natCast_mul, -Int.natCast_ediv, -Int.natCast_emod, -Int.natCast_pow, cpI, e1, in_sgs, e4]]
              cases hall : ts.all (tileOk bs) with
              | false =>
                rw [hb1 hall]
                simp [-Int.natCast_add, -Int.natCast_mul, -Int.natCast_ediv, -Int.natCast_emod, -Int.natCast_pow, al, hall]
              | true =>
                simp [-Int.natCast_add, -Int.natCast_mul, -Int.natCast_ediv, -Int.natCast_emod, -Int.natCast_pow, al, hall]
                obtain ⟨cs, rfl, hcs⟩ := tilesOk_form hall
                have hb := hb2 cs rfl hcs
                simp at hle
                have c0 : 0 < cs.length := by omega
                have l0 : ixP [.lst (cs.map sgP), .int 0] = some (sgP cs[0]) := by
                  rw [ix_l00 (by simpa using c0)]
                  simp
                have e0 : cs.getD 0 0 = cs[0] := by simp [c0]
                rw [e0] at hb
                simp [-Int.natCast_add, -Int.natCast_mul, -Int.natCast_ediv, -Int.natCast_emod, -Int.natCast_pow, l0, line_by_spec ru (hcs _ (List.getElem_mem c0)) ok hl10, eq_sgs, hb]
            · rw [U_law_due_of_k13]
              simp [-Int.natCast_add, -Int.natCast_mul, -Int.natCast_ediv, -Int.natCast_emod, -Int.natCast_pow, ir_law_due_of_k13, dg, dl, hd, hle, hle', dict_rule ru]
              rw [comp_any (fun y => .bl (tileOk bs y)) (by simp) fun y hy => by
                have yp := deep_plain (dA y hy)
                cases y with
                | str s => simp [-Int.natCast_add, -Int.natCast_mul, -Int.natCast_ediv, -Int.natCast_emod, -Int.natCast_pow, cpI, in_dk_str]
                | scr _ => cases yp
                | _ => simp [-Int.natCast_add, -Int.natCast_mul, -Int.natCast_ediv, -Int.natCast_emod, -Int.natCast_pow, cpI, tileOk]]
              cases hall : ts.all (tileOk bs) with
              | false =>
                rw [hb1 hall]
                simp [-Int.natCast_add, -Int.natCast_mul, -Int.natCast_ediv, -Int.natCast_emod, -Int.natCast_pow, al, hall]
              | true =>
                have en := enum_e (xs := ds.map dgP) (by simp; omega)
                simp [-Int.natCast_add, -Int.natCast_mul, -Int.natCast_ediv, -Int.natCast_emod, -Int.natCast_pow, al, hall, en]
                obtain ⟨cs, rfl, hcs⟩ := tilesOk_form hall
                have hb := hb2 cs rfl hcs
                simp at hle
                have c0 : 0 < cs.length := by omega
                have e0 : cs.getD 0 0 = cs[0] := by simp [c0]
                rw [e0] at hb
                have lq := lineF_eq (bs := bs) (ds := ds) (List.getElem?_eq_getElem c0) hle
                generalize hr : forL2 _ _ _ _ = R
                refine for2r hr (fun i e => (∃ x y, e = [some (.p (ruleP h w bs)), some (.p (.tup [.lst (cs.map sgP), .lst (ds.map dgP)])), some (.p (.dic ((tls bs).map sgP) (bs.map fun b => flP b.2))), x, y, none] ∧ isM (some x) = false ∧ isM (some y) = false) ∧ ∀ j d, j < i → ds[j]? = some d → cs[j + 1]? = some (stepF bs (cs.getD j 0) d)) (fun d e => d = .p (.bl false) ∧ (∃ x y, e = [some (.p (ruleP h w bs)), some (.p (.tup [.lst (cs.map sgP), .lst (ds.map dgP)])), some (.p (.dic ((tls bs).map sgP) (bs.map fun b => flP b.2))), x, y, none]) ∧ lineF bs cs[0] ds ≠ cs) ?_ ⟨⟨none, none, rfl, rfl, rfl⟩, fun j d hj => by omega⟩ ?_ ?_ ?_
                · rintro i e ⟨⟨x, y, rfl, _, _⟩, _⟩
                  simp
                · rintro i z e hz ⟨⟨x, y, rfl, hx, hy⟩, hok⟩
                  obtain ⟨q, hq, rfl⟩ := enum_get hz
                  obtain ⟨d, hd, rfl⟩ := map_get hq
                  obtain ⟨hi, _⟩ := List.getElem?_eq_some_iff.mp hd
                  have hi1 : i < cs.length := by omega
                  have hi2 : i + 1 < cs.length := by omega
                  have hin := hcs _ (List.getElem_mem hi1)
                  have hdm := ok d (List.mem_of_getElem? hd)
                  obtain ⟨row, q1, q2⟩ := ix_block ru hin hdm.1 hdm.2
                  have ixc : ∀ j (hj : j < cs.length), ixP [.lst (cs.map sgP), .int (j : Int)] = some (sgP cs[j]) := fun j hj => by
                    rw [ix_ln (by simpa using hj)]
                    simp [hj]
                  have g1 : cs.getD i 0 = cs[i] := by simp [hi1]
                  by_cases hs : stepF bs cs[i] d = cs[i + 1]
                  · right
                    refine ⟨[some (.p (ruleP h w bs)), some (.p (.tup [.lst (cs.map sgP), .lst (ds.map dgP)])), some (.p (.dic ((tls bs).map sgP) (bs.map fun b => flP b.2))), some (.p (.int i)), some (.p (dgP d)), none], ?_, ⟨_, _, rfl, rfl, rfl⟩, fun j d' hj hd' => ?_⟩
                    · simp [-Int.natCast_add, -Int.natCast_mul, -Int.natCast_ediv, -Int.natCast_emod, -Int.natCast_pow, foI, setMany2, hx, hy, ixc i hi1, ixc (i + 1) hi2, ixQ_rule ru hin, q1, q2, hs]
                    · by_cases hj2 : j < i
                      · exact hok j d' hj2 hd'
                      · obtain rfl : j = i := by omega
                        rw [hd] at hd'
                        cases hd'
                        rw [g1, hs, List.getElem?_eq_getElem hi2]
                  · left
                    refine ⟨.p (.bl false), [some (.p (ruleP h w bs)), some (.p (.tup [.lst (cs.map sgP), .lst (ds.map dgP)])), some (.p (.dic ((tls bs).map sgP) (bs.map fun b => flP b.2))), some (.p (.int i)), some (.p (dgP d)), none], ?_, rfl, ⟨_, _, rfl⟩, fun e => ?_⟩
                    · simp [-Int.natCast_add, -Int.natCast_mul, -Int.natCast_ediv, -Int.natCast_emod, -Int.natCast_pow, foI, setMany2, hx, hy, ixc i hi1, ixc (i + 1) hi2, ixQ_rule ru hin, q1, q2, hs]
                    · have := lq.mp e i d hd
                      rw [g1, List.getElem?_eq_getElem hi2] at this
                      exact hs (Option.some.inj this).symm
                · rintro d e rfl ⟨rfl, ⟨x, y, rfl⟩, hne⟩
                  rw [hb]
                  simp [-Int.natCast_add, -Int.natCast_mul, -Int.natCast_ediv, -Int.natCast_emod, -Int.natCast_pow, hne]
                · rintro e rfl ⟨⟨x, y, rfl, _, _⟩, hok⟩
                  have : lineF bs cs[0] ds = cs := lq.mpr fun i d hd => hok i d (by
                    obtain ⟨hi, _⟩ := List.getElem?_eq_some_iff.mp hd
                    rw [enum_len]
                    simpa using hi) hd
                  rw [hb]
                  simp [-Int.natCast_add, -Int.natCast_mul, -Int.natCast_ediv, -Int.natCast_emod, -Int.natCast_pow, this]
          rw [← U_line_holds, ← U_law_due_of_k13]
          cases hall : ts.all (tileOk bs) with
          | false => exact ⟨false, main false (fun _ => rfl) fun cs e hcs => by
              rw [e] at hall
              have : (cs.map sgP).all (tileOk bs) = true := by
                simp [tileOk, sgP]
                exact hcs
              rw [hall] at this
              cases this⟩
          | true =>
            obtain ⟨cs, rfl, hcs⟩ := tilesOk_form hall
            exact ⟨decide (lineF bs (cs.getD 0 0) ds = cs), main _ (fun h => by rw [hall] at h; cases h) fun cs' e hcs' => by
              have e2 : cs = cs' := by
                have := congrArg (fun l => l.map fun p => match p with | P.str [c] => c | _ => 0) e
                simpa [sgP, Function.comp_def] using this
              rw [e2]⟩
        · have hle' : ¬ (ts.length : Int) = (ds.length : Int) + 1 := by omega
          exact ⟨false, by simp [-Int.natCast_add, -Int.natCast_mul, -Int.natCast_ediv, -Int.natCast_emod, -Int.natCast_pow, ir_line_holds, dg, dl, hd, hle, hle'], by simp [-Int.natCast_add, -Int.natCast_mul, -Int.natCast_ediv, -Int.natCast_emod, -Int.natCast_pow, ir_law_due_of_k13, dg, dl, hd, hle, hle']⟩
      · exact ⟨false, by simp [-Int.natCast_add, -Int.natCast_mul, -Int.natCast_ediv, -Int.natCast_emod, -Int.natCast_pow, ir_line_holds, dg, dl, hd], by simp [-Int.natCast_add, -Int.natCast_mul, -Int.natCast_ediv, -Int.natCast_emod, -Int.natCast_pow, ir_law_due_of_k13, dg, dl, hd]⟩
    · have hl : ∀ xs, A ≠ .lst xs := fun xs e => hl ⟨xs, e⟩
      exact ⟨false, by simp [-Int.natCast_add, -Int.natCast_mul, -Int.natCast_ediv, -Int.natCast_emod, -Int.natCast_pow, ir_line_holds, isi_nolst pA hl], by simp [-Int.natCast_add, -Int.natCast_mul, -Int.natCast_ediv, -Int.natCast_emod, -Int.natCast_pow, ir_law_due_of_k13, isi_nolst pA hl]⟩
  · have : ¬ ((ys.length : Int) = 2) := by omega
    exact ⟨false, by simp [-Int.natCast_add, -Int.natCast_mul, -Int.natCast_ediv, -Int.natCast_emod, -Int.natCast_pow, ir_line_holds, this], by simp [-Int.natCast_add, -Int.natCast_mul, -Int.natCast_ediv, -Int.natCast_emod, -Int.natCast_pow, ir_law_due_of_k13, this]⟩
  · exact ⟨false, by simp [-Int.natCast_add, -Int.natCast_mul, -Int.natCast_ediv, -Int.natCast_emod, -Int.natCast_pow, ir_line_holds, isi_notup hp hn], by simp [-Int.natCast_add, -Int.natCast_mul, -Int.natCast_ediv, -Int.natCast_emod, -Int.natCast_pow, ir_law_due_of_k13, isi_notup hp hn]⟩
theorem right_any {h w : Nat} {bs : List (Nat × List (List Nat))} {x : P} (ru : IsRule h w bs) (hx : deepV x = true) (hlen : ∀ ts ds, x = .tup [.lst ts, .lst ds] → ds.length ≤ 1000) (k : Nat) : run2 PR (k + 4) 314 [.p (ruleP h w bs), .p x] = .ok (.p (.bl true)) [] := by
  obtain ⟨b, e1, e2⟩ := line_holds_any ru hx hlen k
  rw [U_law_right_k13]
  cases b <;> simp [-Int.natCast_add, -Int.natCast_mul, -Int.natCast_ediv, -Int.natCast_emod, -Int.natCast_pow, ir_law_right_k13, e1, e2]
theorem refused_any {h w : Nat} {bs : List (Nat × List (List Nat))} {x : P} (hx : deepV x = true) (hb : digsB h w x = false ∨ ∃ xs : List P, x = .lst xs ∧ 60 < xs.length) (k : Nat) : run2 PR (k + 4) 299 [.p (ruleP h w bs), .p x] = .ok (.p (.bl true)) [] := by
  have dg := fun k => digits_good_any (h := h) (w := w) (bs := bs) hx k
  rw [U_law_refused_k13]
  cases hd : digsB h w x with
  | false => simp [-Int.natCast_add, -Int.natCast_mul, -Int.natCast_ediv, -Int.natCast_emod, -Int.natCast_pow, ir_law_refused_k13, U_place_far, ir_place_far, dg, hd]
  | true =>
    rcases hb with hb | ⟨xs, rfl, hl⟩
    · rw [hb] at hd
      cases hd
    · have hl' : (60 : Int) < (xs.length : Int) := by omega
      simp [-Int.natCast_add, -Int.natCast_mul, -Int.natCast_ediv, -Int.natCast_emod, -Int.natCast_pow, ir_law_refused_k13, U_place_far, ir_place_far, dg, hd, hl, hl']
theorem pick_gen {l : List P} {v : Nat} {q : Option P} (h : ixP [.lst l, .int (v : Int)] = q) (hv : v < l.length) : ∃ x ∈ l, q = some x := by
  obtain ⟨x, e, m⟩ := pickL_el hv
  exact ⟨x, m, h ▸ e⟩
theorem int_bl (b : Bool) : intP [.bl b] = some (.int (if b then 1 else 0)) := by
  cases b <;> rfl
theorem lineF_snoc {bs : List (Nat × List (List Nat))} {t : Nat} (ds : List (Nat × Nat)) (d : Nat × Nat) : lineF bs t (ds ++ [d]) = lineF bs t ds ++ [stepF bs (lastF bs t ds) d] := by
  unfold lineF
  rw [List.length_append, List.length_singleton, List.range_succ, List.map_append]
  congr 1
  · refine List.map_congr_left fun i hi => ?_
    have := List.mem_range.mp hi
    rw [List.take_append_of_le_length (by omega)]
  · simp only [List.map_cons, List.map_nil]
    rw [List.take_of_length_le (by simp), last_app]
    rfl
theorem line_of_el {k h w : Nat} {bs : List (Nat × List (List Nat))} {o : O} {R : Q2} (hR : run2 PR (k + 3) 239 [.m o, .p (ruleP h w bs)] = R) (hp : IsPen o) (ru : IsRule h w bs) (hb : bs.length ≤ 6) : ∃ (t : Nat) (ds : List (Nat × Nat)) (o' : O), R = .ok (.p (.tup [.lst ((lineF bs t ds).map sgP), .lst (ds.map dgP)])) [o'] ∧ IsPen o' ∧ t ∈ tls bs ∧ DigOk h w ds ∧ ds.length ≤ 60 := by
  have h1 := ru.h1
  have w1 := ru.w1
  have h4 := ru.h4
  have w4 := ru.w4
  have p0 := tls_pos ru
  have tl := tls_len bs
  have lt := fun k => law_tiles_of_spec k h w bs
  subst hR
  rw [U_law_line_of]
  simp [-Int.natCast_add, -Int.natCast_mul, -Int.natCast_ediv, -Int.natCast_emod, -Int.natCast_pow, ir_law_line_of, dict_rule ru, lt]
  generalize hr_v : run2 PR _ 111 _ = r_v
  obtain ⟨v, o1, rfl, p_o1, h_v⟩ := draw_el hr_v (by assumption) (by omega) (by omega)
  clear hr_v
  try simp [-Int.natCast_add, -Int.natCast_mul, -Int.natCast_ediv, -Int.natCast_emod, -Int.natCast_pow] 
  have hv : v < (tls bs).length := by omega
  simp [-Int.natCast_add, -Int.natCast_mul, -Int.natCast_ediv, -Int.natCast_emod, -Int.natCast_pow, tls_at hv]
  obtain ⟨t, ht⟩ : ∃ t, t = (tls bs)[v] := ⟨_, rfl⟩
  have htm : t ∈ tls bs := by rw [ht]; exact List.getElem_mem hv
  rw [← ht]
  obtain ⟨dc, hdc⟩ : ∃ dc, dc = P.dic ((tls bs).map sgP) (bs.map fun b => flP b.2) := ⟨_, rfl⟩
  have ixd : ∀ c, c ∈ tls bs → ixQ [dc, sgP c] = some (flP (blk bs c)) := fun c hc => by rw [hdc]; exact ixQ_rule ru hc
  rw [← hdc]
  clear hdc
  generalize hr_a : run2 PR _ 111 _ = r_a
  obtain ⟨a, o2, rfl, p_o2, h_a⟩ := draw_el hr_a (by assumption) (by omega) (by omega)
  clear hr_a
  try simp [-Int.natCast_add, -Int.natCast_mul, -Int.natCast_ediv, -Int.natCast_emod, -Int.natCast_pow] 
  generalize hr_b : run2 PR _ 111 _ = r_b
  obtain ⟨b, o3, rfl, p_o3, h_b⟩ := draw_el hr_b (by assumption) (by omega) (by omega)
  clear hr_b
  try simp [-Int.natCast_add, -Int.natCast_mul, -Int.natCast_ediv, -Int.natCast_emod, -Int.natCast_pow, int_bl]
  obtain ⟨n, e9, hn⟩ : ∃ n : Nat, ixP [.lst [.int a, .int 60], .int (if b = 0 then 1 else 0)] = some (.int n) ∧ n ≤ 60 := by
    by_cases h0 : b = 0
    · exact ⟨60, by simp [h0], by omega⟩
    · exact ⟨a, by simp [h0], by omega⟩
  simp [-Int.natCast_add, -Int.natCast_mul, -Int.natCast_ediv, -Int.natCast_emod, -Int.natCast_pow, e9, range_nat (n := n) (by omega)]
  rw [show (O.lst [sgP t]) = .lst ((lineF bs t []).map sgP) from rfl]
  generalize hfor1 : forL2 _ _ _ _ = R1
  obtain ⟨I1, hI1⟩ : ∃ I : Nat → E2 → Prop, ∀ i e, I i e ↔ (∃ (o : O) (ds : List (Nat × Nat)) (x : Option V), e = [some (.m o), some (.p (ruleP h w bs)), some (.p dc), some (.m (.lst ((lineF bs t ds).map sgP))), some (.m (.lst (ds.map dgP))), x] ∧ IsPen o ∧ DigOk h w ds ∧ ds.length = i) := ⟨_, fun _ _ => Iff.rfl⟩
  refine for2 hfor1 I1 (by intro n e he; first | (simp; done) | (replace he := (hI1 _ _).mp he; (repeat (obtain ⟨_, he⟩ := he)); subst_vars; simp)) ?_ ?_ ?_
  · refine (hI1 _ _).mpr ⟨_, [], none, rfl, by assumption, fun d hd => (by cases hd), rfl⟩
  · intro i x hx e he
    obtain ⟨o, ds, x, rfl, po, ok, hl⟩ := (hI1 _ _).mp he
    clear he
    obtain ⟨rfl, hi⟩ := nat_get hx
    simp [-Int.natCast_add, -Int.natCast_mul, -Int.natCast_ediv, -Int.natCast_emod, -Int.natCast_pow, foI]
    generalize hr_r : run2 PR _ 111 _ = r_r
    obtain ⟨r, o4, rfl, p_o4, h_r⟩ := draw_el hr_r (by assumption) (by omega) (by omega)
    clear hr_r
    try simp [-Int.natCast_add, -Int.natCast_mul, -Int.natCast_ediv, -Int.natCast_emod, -Int.natCast_pow] 
    generalize hr_c : run2 PR _ 111 _ = r_c
    obtain ⟨c, o5, rfl, p_o5, h_c⟩ := draw_el hr_c (by assumption) (by omega) (by omega)
    clear hr_c
    try simp [-Int.natCast_add, -Int.natCast_mul, -Int.natCast_ediv, -Int.natCast_emod, -Int.natCast_pow] 
    have hin := last_in ru htm ok
    obtain ⟨row, q1, q2⟩ := ix_block (d := (r, c)) ru hin (by omega) (by omega)
    have i1 : ixP [.lst ((lineF bs t ds).map sgP), .int (-1)] = some (sgP (lastF bs t ds)) := lineF_last bs t ds
    have dl : (ds.map dgP ++ [dgP (r, c)]) = (ds ++ [(r, c)]).map dgP := by simp
    have i2 : ixP [.lst (ds.map dgP ++ [dgP (r, c)]), .int (-1)] = some (dgP (r, c)) := by
      rw [ix_lneg (by simp)]
      simp
    have l1 : (lineF bs t ds).length = ds.length + 1 := by simp [lineF]
    rw [show P.tup [.int (r : Int), .int (c : Int)] = dgP (r, c) from rfl]
    simp [-Int.natCast_add, -Int.natCast_mul, -Int.natCast_ediv, -Int.natCast_emod, -Int.natCast_pow, (show ds.length < 16777216 by omega), i1, i2, ixd _ hin, q1, q2, l1, (show ds.length + 1 < 16777216 by omega)]
    refine (hI1 _ _).mpr ⟨o5, ds ++ [(r, c)], _, by simp [lineF_snoc]; exact rfl, by assumption, ?_, by simp [hl]⟩
    intro d hd
    rcases List.mem_append.mp hd with hd | hd
    · exact ok d hd
    · rw [List.mem_singleton.mp hd]
      exact ⟨by omega, by omega⟩
  · intro e he0 he
    obtain ⟨o, ds, x, rfl, po, ok, hl⟩ := (hI1 _ _).mp he
    subst he0
    clear he
    simp at hl
    simp [-Int.natCast_add, -Int.natCast_mul, -Int.natCast_ediv, -Int.natCast_emod, -Int.natCast_pow]
    exact ⟨t, ds, _, ⟨⟨rfl, rfl⟩, rfl⟩, po, htm, ok, by omega⟩

theorem add_pair0 (a b c : Int) : addP [.tup [.int a, .int b], .tup [.int c]] = some (.tup [.int a, .int b, .int c]) := by simp [addP, isPairs, isPair, line]
theorem slice_pair (a b : Int) : sliceP [.tup [.int a, .int b], .non, .int 1] = some (.tup [.int a]) := rfl
theorem list_pair (a b : Int) : listQ [.tup [.int a, .int b]] = some (.lst [.int a, .int b]) := rfl
theorem odd_digits_el {k h w : Nat} {bs : List (Nat × List (List Nat))} {o : O} {R : Q2} {ds : List (Nat × Nat)} (hR : run2 PR (k + 3) 255 [.m o, .p (ruleP h w bs), .p (.lst (ds.map dgP))] = R) (hp : IsPen o) (hl : ds.length ≤ 60) : ∃ (ys : List P) (o' : O), R = .ok (.p (.lst ys)) [o'] ∧ IsPen o' ∧ deepVs ys = true ∧ ys.length ≤ 70 := by
  subst hR
  rw [U_law_odd_digits]
  simp [-Int.natCast_add, -Int.natCast_mul, -Int.natCast_ediv, -Int.natCast_emod, -Int.natCast_pow, ir_law_odd_digits]
  generalize hr_s : run2 PR _ 111 _ = r_s
  obtain ⟨s, o1, rfl, p_o1, h_s⟩ := draw_el hr_s (by assumption) (by omega) (by omega)
  clear hr_s
  try simp [-Int.natCast_add, -Int.natCast_mul, -Int.natCast_ediv, -Int.natCast_emod, -Int.natCast_pow] 
  have key : ∀ (x : P) (o' : O) (ys : List P), IsPen o' → deepV x = true → ys = (ds.map dgP).take s ++ x :: (ds.map dgP).drop (s + 1) → deepVs ys = true ∧ ys.length ≤ 70 := by
    rintro x o' ys _ hx rfl
    refine ⟨deepVs_app (deepVs_sub (deepVs_dg ds) fun x hx => List.mem_of_mem_take hx) (by simp only [deepVs, hx, Bool.true_and]; exact deepVs_sub (deepVs_dg ds) fun x hx => List.mem_of_mem_drop hx), ?_⟩
    simp
    omega
  by_cases hs : s < ds.length
  · have i1 : ixP [.lst (ds.map dgP), .int (s : Int)] = some (dgP ds[s]) := by
      rw [ix_ln (by simpa using hs)]
      simp [hs]
    simp [-Int.natCast_add, -Int.natCast_mul, -Int.natCast_ediv, -Int.natCast_emod, -Int.natCast_pow, hs, i1, add_lst, dgP, add_pair0, slice_pair, list_pair]
    simp [-Int.natCast_add, -Int.natCast_mul, -Int.natCast_ediv, -Int.natCast_emod, -Int.natCast_pow, slice_lst0, add_lst]
    generalize hr_v : run2 PR _ 111 _ = r_v
    obtain ⟨v, o2, rfl, p_o2, h_v⟩ := draw_el hr_v (by assumption) (by omega) (by omega)
    clear hr_v
    try simp [-Int.natCast_add, -Int.natCast_mul, -Int.natCast_ediv, -Int.natCast_emod, -Int.natCast_pow] 
    generalize hq : ixP [.lst _, .int (v : Int)] = q
    obtain ⟨x, hxm, rfl⟩ := pick_gen hq (by simp; omega)
    clear hq
    have hx : deepV x = true := by
      simp at hxm
      rcases hxm with rfl | rfl | rfl | rfl | rfl | rfl | rfl | rfl | rfl | rfl | rfl | rfl | rfl | rfl | rfl | rfl | rfl <;> simp [deepV, deepVs]
    obtain ⟨k1, k2⟩ := key x o2 _ (by assumption) hx rfl
    simp [-Int.natCast_add, -Int.natCast_mul, -Int.natCast_ediv, -Int.natCast_emod, -Int.natCast_pow, slice_lst0, slice_lstE, add_lst (show (List.take s (ds.map dgP)).length + [x].length ≤ 16777216 by simp; omega), add_lst (show (List.take s (ds.map dgP) ++ [x]).length + (List.drop (s + 1) (ds.map dgP)).length ≤ 16777216 by simp; omega)]
    exact ⟨_, _, ⟨rfl, rfl⟩, by assumption, k1, k2⟩
  · simp [-Int.natCast_add, -Int.natCast_mul, -Int.natCast_ediv, -Int.natCast_emod, -Int.natCast_pow, hs, add_lst, add_pair0, slice_pair, list_pair]
    simp [-Int.natCast_add, -Int.natCast_mul, -Int.natCast_ediv, -Int.natCast_emod, -Int.natCast_pow, slice_lst0, add_lst]
    generalize hr_v : run2 PR _ 111 _ = r_v
    obtain ⟨v, o2, rfl, p_o2, h_v⟩ := draw_el hr_v (by assumption) (by omega) (by omega)
    clear hr_v
    try simp [-Int.natCast_add, -Int.natCast_mul, -Int.natCast_ediv, -Int.natCast_emod, -Int.natCast_pow] 
    generalize hq : ixP [.lst _, .int (v : Int)] = q
    obtain ⟨x, hxm, rfl⟩ := pick_gen hq (by simp; omega)
    clear hq
    have hx : deepV x = true := by
      simp at hxm
      rcases hxm with rfl | rfl | rfl | rfl | rfl | rfl | rfl | rfl | rfl | rfl | rfl | rfl | rfl | rfl | rfl | rfl | rfl <;> simp [deepV, deepVs]
    obtain ⟨k1, k2⟩ := key x o2 _ (by assumption) hx rfl
    simp [-Int.natCast_add, -Int.natCast_mul, -Int.natCast_ediv, -Int.natCast_emod, -Int.natCast_pow, slice_lst0, slice_lstE, add_lst (show (List.take s (ds.map dgP)).length + [x].length ≤ 16777216 by simp; omega), add_lst (show (List.take s (ds.map dgP) ++ [x]).length + (List.drop (s + 1) (ds.map dgP)).length ≤ 16777216 by simp; omega)]
    exact ⟨_, _, ⟨rfl, rfl⟩, by assumption, k1, k2⟩

/-- a thing of which it is asked whether it is a line -/
def okLn : P → Bool
  | .tup [.lst _, .lst ds] => decide (ds.length ≤ 1000)
  | _ => true
theorem okLn_len {x : P} (h : okLn x = true) : ∀ ts ds, x = .tup [.lst ts, .lst ds] → ds.length ≤ 1000 := by
  rintro ts ds rfl
  simpa [okLn] using h
theorem odd_of_el {k h w t : Nat} {bs : List (Nat × List (List Nat))} {o : O} {R : Q2} {ds : List (Nat × Nat)} (hR : run2 PR (k + 4) 259 [.m o, .p (ruleP h w bs), .p (.tup [.lst ((lineF bs t ds).map sgP), .lst (ds.map dgP)])] = R) (hp : IsPen o) (ru : IsRule h w bs) (hb : bs.length ≤ 6) (hl : ds.length ≤ 60) : ∃ (x : P) (o' : O), R = .ok (.p x) [o'] ∧ IsPen o' ∧ deepV x = true ∧ okLn x = true := by
  have lt := fun k => law_tiles_of_spec k h w bs
  have tl := tls_len bs
  have p0 := tls_pos ru
  subst hR
  rw [U_law_odd_of_k13]
  obtain ⟨T, hT⟩ : ∃ T, T = lineF bs t ds := ⟨_, rfl⟩
  have hTl : T.length = ds.length + 1 := by rw [hT]; simp [lineF]
  rw [← hT]
  clear hT
  simp [-Int.natCast_add, -Int.natCast_mul, -Int.natCast_ediv, -Int.natCast_emod, -Int.natCast_pow, ir_law_odd_of_k13, lt]
  generalize hr_s : run2 PR _ 111 _ = r_s
  obtain ⟨s, o1, rfl, p_o1, h_s⟩ := draw_el hr_s (by assumption) (by omega) (by omega)
  clear hr_s
  try simp [-Int.natCast_add, -Int.natCast_mul, -Int.natCast_ediv, -Int.natCast_emod, -Int.natCast_pow] 
  generalize hr_v : run2 PR _ 111 _ = r_v
  obtain ⟨v, o2, rfl, p_o2, h_v⟩ := draw_el hr_v (by assumption) (by omega) (by omega)
  clear hr_v
  try simp [-Int.natCast_add, -Int.natCast_mul, -Int.natCast_ediv, -Int.natCast_emod, -Int.natCast_pow] 
  have hv : v < (tls bs).length := by omega
  simp [-Int.natCast_add, -Int.natCast_mul, -Int.natCast_ediv, -Int.natCast_emod, -Int.natCast_pow, tls_at hv]
  obtain ⟨c, hc⟩ : ∃ c, c = (tls bs)[v] := ⟨_, rfl⟩
  rw [← hc]
  clear hc
  have dT := deepVs_sg T
  have dD := deepVs_dg ds
  obtain ⟨TP, hTP⟩ : ∃ TP, TP = T.map sgP := ⟨_, rfl⟩
  obtain ⟨DP, hDP⟩ : ∃ DP, DP = ds.map dgP := ⟨_, rfl⟩
  have lT : TP.length = ds.length + 1 := by rw [hTP, List.length_map, hTl]
  have lD : DP.length = ds.length := by rw [hDP, List.length_map]
  rw [← hTP] at dT
  rw [← hDP] at dD
  rw [← hTP, ← hDP]
  have a1 : ∀ x, addP [.lst (TP.take s), .lst [x]] = some (.lst (TP.take s ++ [x])) := fun x => add_lst (by simp; omega)
  have a2 : ∀ x, addP [.lst (TP.take s ++ [x]), .lst (TP.drop (s + 1))] = some (.lst (TP.take s ++ [x] ++ TP.drop (s + 1))) := fun x => add_lst (by simp; omega)
  have s0 : sliceP [.lst TP, .non, .int (s : Int)] = some (.lst (TP.take s)) := slice_lst0 _ _
  have s1 : sliceP [.lst TP, .int ((s + 1 : Nat) : Int), .non] = some (.lst (TP.drop (s + 1))) := slice_lstE _ _
  have s2 : sliceP [.lst DP, .int 1, .non] = some (.lst (DP.drop 1)) := slice_lstE DP 1
  have s3 : ∃ T2, sliceP [.lst TP, .non, .int (-1)] = some (.lst T2) ∧ ∀ x ∈ T2, x ∈ TP := ⟨_, rfl, fun x hx => List.mem_of_mem_drop (List.mem_of_mem_take hx)⟩
  obtain ⟨T2, s3, hT2⟩ := s3
  have a3 : addP [.lst TP, .lst [sgP c]] = some (.lst (TP ++ [sgP c])) := add_lst (by simp; omega)
  have m9 : ∀ x, mulP [.lst [x], .int 9] = some (.lst [x, x, x, x, x, x, x, x, x]) := fun x => by simp [mulP, line, List.replicate]
  simp [-Int.natCast_add, -Int.natCast_mul, -Int.natCast_ediv, -Int.natCast_emod, -Int.natCast_pow, for_cons, for_nil, foI, s0, s1, a1, a2, s2, s3, a3, cat_l]
  generalize hr_c : run2 PR _ 255 _ = r_c
  rw [hDP] at hr_c
  obtain ⟨D2, o3, rfl, po3, dD2, lD2⟩ := odd_digits_el hr_c (by assumption) hl
  clear hr_c
  simp [-Int.natCast_add, -Int.natCast_mul, -Int.natCast_ediv, -Int.natCast_emod, -Int.natCast_pow, m9, revP, add_lst, cat_l]
  generalize hr_u : run2 PR _ 111 _ = r_u
  obtain ⟨u, o4, rfl, p_o4, h_u⟩ := draw_el hr_u (by assumption) (by omega) (by omega)
  clear hr_u
  try simp [-Int.natCast_add, -Int.natCast_mul, -Int.natCast_ediv, -Int.natCast_emod, -Int.natCast_pow] 
  generalize hq : ixP [.lst _, .int (u : Int)] = q
  obtain ⟨x, hxm, rfl⟩ := pick_gen hq (by simp; omega)
  clear hq
  have dX : ∀ y, deepV y = true → deepVs (TP.take s ++ y :: TP.drop (s + 1)) = true := fun y hy => deepVs_app (deepVs_sub dT fun x hx => List.mem_of_mem_take hx) (by simp only [deepVs, hy, Bool.true_and]; exact deepVs_sub dT fun x hx => List.mem_of_mem_drop hx)
  have dT2 := deepVs_sub dT hT2
  have dD1 : deepVs (DP.drop 1) = true := deepVs_sub dD fun x hx => List.mem_of_mem_drop hx
  have dD3 : deepVs DP.tail = true := by rw [← List.drop_one]; exact dD1
  have dTr : deepVs TP.reverse = true := deepVs_sub dT fun x hx => List.mem_reverse.mp hx
  have dTa : deepVs (TP ++ [sgP c]) = true := deepVs_app dT rfl
  simp [-Int.natCast_add, -Int.natCast_mul, -Int.natCast_ediv, -Int.natCast_emod, -Int.natCast_pow]
  refine ⟨x, _, ⟨rfl, rfl⟩, by assumption, ?_⟩
  simp at hxm
  rcases hxm with rfl | rfl | rfl | rfl | rfl | rfl | rfl | rfl | rfl | rfl | rfl | rfl | rfl | rfl | rfl | rfl | rfl | rfl | rfl | rfl | rfl | rfl | rfl | rfl <;> first
    | exact ⟨rfl, rfl⟩
    | (simp only [deepV, deepVs, okLn, dX (sgP c) rfl, dX (.str [65]) rfl, dX (.str []) rfl, dX (.str [97, 98]) rfl, dX .non rfl, dX (.int 0) rfl, dX (.lst [sgP c]) rfl, dT, dD, dT2, dD1, dD3, dTr, dTa, dD2, Bool.and_true, decide_eq_true_eq, true_and]; done)
    | (simp only [deepV, deepVs, okLn, dX (sgP c) rfl, dX (.str [65]) rfl, dX (.str []) rfl, dX (.str [97, 98]) rfl, dX .non rfl, dX (.int 0) rfl, dX (.lst [sgP c]) rfl, dT, dD, dT2, dD1, dD3, dTr, dTa, dD2, Bool.and_true, decide_eq_true_eq, true_and]; omega)
    | (simp only [deepV, deepVs, okLn, dX (sgP c) rfl, dX (.str [65]) rfl, dX (.str []) rfl, dX (.str [97, 98]) rfl, dX .non rfl, dX (.int 0) rfl, dX (.lst [sgP c]) rfl, dT, dD, dT2, dD1, dD3, dTr, dTa, dD2, Bool.and_true, decide_eq_true_eq, true_and]; simp; omega)

theorem range_5 : range1P [.int 5] = some ((List.range 5).map natP) := rfl
theorem mul61 : mulP [.lst [.tup [.int 0, .int 0]], .int 61] = some (.lst (List.replicate 61 (.tup [.int 0, .int 0]))) := by
  simp [mulP, line]
theorem k13.main (ns : List Int) (h : ns.length ≤ 63) : ∃ S, run PR 40 174 [.p (.scr (ns.map .int))] [] = .ok (.p (.bl true)) S := by
  refine run_of ?_
  rw [U_law_k13]
  simp [-Int.natCast_add, -Int.natCast_mul, -Int.natCast_ediv, -Int.natCast_emod, -Int.natCast_pow, ir_law_k13, add_cells]
  generalize hfor1 : forL2 _ _ _ _ = R1
  obtain ⟨I1, hI1⟩ : ∃ I : Nat → E2 → Prop, ∀ i e, I i e ↔ (∃ (a b c d f g : Option V), e = [some (.p (.scr (ns.map .int))), a, b, c, d, f, g]) := ⟨_, fun _ _ => Iff.rfl⟩
  refine for2 hfor1 I1 (by intro n e he; first | (simp; done) | (replace he := (hI1 _ _).mp he; (repeat (obtain ⟨_, he⟩ := he)); subst_vars; simp)) ?_ ?_ ?_
  · refine (hI1 _ _).mpr ⟨none, none, none, none, none, none, rfl⟩
  · intro i x hx e he
    obtain ⟨a, b, c, d, f, g, rfl⟩ := (hI1 _ _).mp he
    clear he
    obtain ⟨z, hz, rfl⟩ := map_get hx
    simp [-Int.natCast_add, -Int.natCast_mul, -Int.natCast_ediv, -Int.natCast_emod, -Int.natCast_pow, foI]
    generalize hr_c : run2 PR _ 285 _ = r_c
    obtain ⟨o, rfl, po⟩ := pen_el hr_c 
    clear hr_c
    try simp [-Int.natCast_add, -Int.natCast_mul, -Int.natCast_ediv, -Int.natCast_emod, -Int.natCast_pow] 
    generalize hr_c : run2 PR _ 343 _ = r_c
    obtain ⟨h, w, bs, o1, rfl, po1, ru, hbs⟩ := rule_k09_el hr_c (most := 6) po (by omega) (by omega)
    clear hr_c
    try simp [-Int.natCast_add, -Int.natCast_mul, -Int.natCast_ediv, -Int.natCast_emod, -Int.natCast_pow] 
    generalize hr_c : run2 PR _ 239 _ = r_c
    obtain ⟨t, ds, o2, rfl, po2, ht, ok, hl⟩ := line_of_el hr_c (by assumption) ru hbs
    clear hr_c
    try simp [-Int.natCast_add, -Int.natCast_mul, -Int.natCast_ediv, -Int.natCast_emod, -Int.natCast_pow] 
    have lh := fun k => line_holds_spec ru ht ok (show ds.length ≤ 1000 by omega) k
    simp [-Int.natCast_add, -Int.natCast_mul, -Int.natCast_ediv, -Int.natCast_emod, -Int.natCast_pow, lh, isNotBP, range_5]
    generalize hfor2 : forL2 _ _ _ _ = R2
    obtain ⟨I2, hI2⟩ : ∃ I : Nat → E2 → Prop, ∀ j e, I j e ↔ (∃ (o : O) (x y : Option V), e = [some (.p (.scr (ns.map .int))), some (.p (.int z)), some (.m o), some (.p (ruleP h w bs)), some (.p (.tup [.lst ((lineF bs t ds).map sgP), .lst (ds.map dgP)])), x, y] ∧ IsPen o) := ⟨_, fun _ _ => Iff.rfl⟩
    refine for2 hfor2 I2 (by intro n e he; first | (simp; done) | (replace he := (hI2 _ _).mp he; (repeat (obtain ⟨_, he⟩ := he)); subst_vars; simp)) ?_ ?_ ?_
    · refine (hI2 _ _).mpr ⟨_, _, _, rfl, by assumption⟩
    · intro j x hx e he
      obtain ⟨o3, x, y, rfl, po3⟩ := (hI2 _ _).mp he
      clear he
      simp [-Int.natCast_add, -Int.natCast_mul, -Int.natCast_ediv, -Int.natCast_emod, -Int.natCast_pow, foI]
      generalize hr_c : run2 PR _ 259 _ = r_c
      obtain ⟨x, o4, rfl, po4, hx1, hx2⟩ := odd_of_el hr_c po3 ru hbs hl
      clear hr_c
      try simp [-Int.natCast_add, -Int.natCast_mul, -Int.natCast_ediv, -Int.natCast_emod, -Int.natCast_pow] 
      have rr := fun k => right_any (k := k) ru hx1 (okLn_len hx2)
      simp [-Int.natCast_add, -Int.natCast_mul, -Int.natCast_ediv, -Int.natCast_emod, -Int.natCast_pow, rr]
      refine (hI2 _ _).mpr ⟨_, _, _, rfl, by assumption⟩
    · intro e he0 he
      obtain ⟨o3, x, y, rfl, po3⟩ := (hI2 _ _).mp he
      subst he0
      clear he
      simp [-Int.natCast_add, -Int.natCast_mul, -Int.natCast_ediv, -Int.natCast_emod, -Int.natCast_pow]
      generalize hr_c : run2 PR _ 255 _ = r_c
      obtain ⟨ys, o4, rfl, po4, dys, lys⟩ := odd_digits_el hr_c po3 hl
      clear hr_c
      try simp [-Int.natCast_add, -Int.natCast_mul, -Int.natCast_ediv, -Int.natCast_emod, -Int.natCast_pow] 
      have t1 : tupleP [.lst (ds.map dgP)] = some (.tup (ds.map dgP)) := rfl
      obtain ⟨X4, m61, v4, l4⟩ : ∃ X4, mulP [.lst [.tup [.int 0, .int 0]], .int 61] = some (.lst X4) ∧ deepV (.lst X4) = true ∧ X4.length = 61 := ⟨_, mul61, by
        simp only [deepV, deepVs_iff]
        intro x hx
        rw [List.eq_of_mem_replicate hx]
        rfl, List.length_replicate⟩
      simp [-Int.natCast_add, -Int.natCast_mul, -Int.natCast_ediv, -Int.natCast_emod, -Int.natCast_pow, t1, m61]
      have dgs := fun x hx k => law_digits_any (h := h) (w := w) (bs := bs) (x := x) hx k
      have rf := fun x hx hb k => refused_any (h := h) (w := w) (bs := bs) (x := x) hx hb k
      have d1 := dgs (.lst ys) dys
      have d2 := dgs (.tup (ds.map dgP)) (deepVs_dg ds)
      have d3 := dgs .non rfl
      have d4 := dgs (.lst X4) v4
      have d5 := dgs (.str []) rfl
      have d6 := dgs (.dic [] []) rfl
      have d7 := dgs (.int 0) rfl
      have r2 := rf (.tup (ds.map dgP)) (deepVs_dg ds) (.inl rfl)
      have r3 := rf .non rfl (.inl rfl)
      have r4 := rf (.lst X4) v4 (.inr ⟨_, rfl, by omega⟩)
      have r5 := rf (.str []) rfl (.inl rfl)
      have r6 := rf (.dic [] []) rfl (.inl rfl)
      have r7 := rf (.int 0) rfl (.inl rfl)
      have f2 : digsB h w (.tup (ds.map dgP)) = false := rfl
      have f3 : digsB h w .non = false := rfl
      have f5 : digsB h w (.str []) = false := rfl
      have f6 : digsB h w (.dic [] []) = false := rfl
      have f7 : digsB h w (.int 0) = false := rfl
      rw [f2] at d2
      rw [f3] at d3
      rw [f5] at d5
      rw [f6] at d6
      rw [f7] at d7
      cases q4 : digsB h w (.lst X4) <;> cases q1 : digsB h w (.lst ys)
      · have r1 := rf (.lst ys) dys (.inl q1)
        rw [q1] at d1
        rw [q4] at d4
        simp [-Int.natCast_add, -Int.natCast_mul, -Int.natCast_ediv, -Int.natCast_emod, -Int.natCast_pow, for_cons, for_nil, foI, d1, d2, d3, d4, d5, d6, d7, r1, r2, r3, r4, r5, r6, r7]
        refine (hI1 _ _).mpr ⟨_, _, _, _, _, _, rfl⟩
      · rw [q1] at d1
        rw [q4] at d4
        by_cases l1 : 60 < ys.length
        · have r1 := rf (.lst ys) dys (.inr ⟨_, rfl, l1⟩)
          simp [-Int.natCast_add, -Int.natCast_mul, -Int.natCast_ediv, -Int.natCast_emod, -Int.natCast_pow, for_cons, for_nil, foI, d1, d2, d3, d4, d5, d6, d7, r1, r2, r3, r4, r5, r6, r7, l1]
          refine (hI1 _ _).mpr ⟨_, _, _, _, _, _, rfl⟩
        · simp [-Int.natCast_add, -Int.natCast_mul, -Int.natCast_ediv, -Int.natCast_emod, -Int.natCast_pow, for_cons, for_nil, foI, d1, d2, d3, d4, d5, d6, d7, r2, r3, r4, r5, r6, r7, l1, (show ¬ (60 : Int) < (ys.length : Int) by omega)]
          refine (hI1 _ _).mpr ⟨_, _, _, _, _, _, rfl⟩
      · have r1 := rf (.lst ys) dys (.inl q1)
        rw [q1] at d1
        rw [q4] at d4
        simp [-Int.natCast_add, -Int.natCast_mul, -Int.natCast_ediv, -Int.natCast_emod, -Int.natCast_pow, for_cons, for_nil, foI, d1, d2, d3, d4, d5, d6, d7, r1, r2, r3, r4, r5, r6, r7, l4]
        refine (hI1 _ _).mpr ⟨_, _, _, _, _, _, rfl⟩
      · rw [q1] at d1
        rw [q4] at d4
        by_cases l1 : 60 < ys.length
        · have r1 := rf (.lst ys) dys (.inr ⟨_, rfl, l1⟩)
          simp [-Int.natCast_add, -Int.natCast_mul, -Int.natCast_ediv, -Int.natCast_emod, -Int.natCast_pow, for_cons, for_nil, foI, d1, d2, d3, d4, d5, d6, d7, r1, r2, r3, r4, r5, r6, r7, l1, l4]
          refine (hI1 _ _).mpr ⟨_, _, _, _, _, _, rfl⟩
        · simp [-Int.natCast_add, -Int.natCast_mul, -Int.natCast_ediv, -Int.natCast_emod, -Int.natCast_pow, for_cons, for_nil, foI, d1, d2, d3, d4, d5, d6, d7, r2, r3, r4, r5, r6, r7, l1, l4, (show ¬ (60 : Int) < (ys.length : Int) by omega)]
          refine (hI1 _ _).mpr ⟨_, _, _, _, _, _, rfl⟩
  · intro e he0 he
    obtain ⟨a, b, c, d, f, g, rfl⟩ := (hI1 _ _).mp he
    subst he0
    clear he
    simp

end DL

set_option maxRecDepth 100000
set_option maxHeartbeats 2000000
namespace DL
namespace k13
open PySem PySem.Spec PyProof.Rows L2
def topS (i : Nat) : Stmt := PySem.Challenge.pw_tilegrow_k13_lines_by_anybody.main.body.getD i (.Pass ⟨0, 0, 0, 0⟩)
abbrev s_is_whole : Stmt := topS 13
theorem sc_is_whole : FnScope ["thing"] ["thing"] (defScope s_is_whole) := ⟨rfl, rfl, rfl, by decide +kernel, rfl, by decide +kernel, by decide +kernel⟩
abbrev s_is_tile : Stmt := topS 14
theorem sc_is_tile : FnScope ["thing"] ["thing"] (defScope s_is_tile) := ⟨rfl, rfl, rfl, by decide +kernel, rfl, by decide +kernel, by decide +kernel⟩
abbrev s_tiles_of : Stmt := topS 16
theorem sc_tiles_of : FnScope ["rule", "tile", "block"] ["rule"] (defScope s_tiles_of) := ⟨rfl, rfl, rfl, by decide +kernel, rfl, by decide +kernel, by decide +kernel⟩
abbrev s_block_of : Stmt := topS 17
theorem sc_block_of : FnScope ["rule", "tile", "other", "block"] ["rule", "tile"] (defScope s_block_of) := ⟨rfl, rfl, rfl, by decide +kernel, rfl, by decide +kernel, by decide +kernel⟩
abbrev s_line_by : Stmt := topS 20
theorem sc_line_by : FnScope ["rule", "tile", "digits", "found", "i", "j"] ["rule", "tile", "digits"] (defScope s_line_by) := ⟨rfl, rfl, rfl, by decide +kernel, rfl, by decide +kernel, by decide +kernel⟩
abbrev s_digits_good : Stmt := topS 21
theorem sc_digits_good : FnScope ["rule", "thing", "pair"] ["rule", "thing"] (defScope s_digits_good) := ⟨rfl, rfl, rfl, by decide +kernel, rfl, by decide +kernel, by decide +kernel⟩
abbrev s_place_far : Stmt := topS 22
theorem sc_place_far : FnScope ["rule", "digits", "row", "column", "i", "j"] ["rule", "digits"] (defScope s_place_far) := ⟨rfl, rfl, rfl, by decide +kernel, rfl, by decide +kernel, by decide +kernel⟩
abbrev s_line_holds : Stmt := topS 23
theorem sc_line_holds : FnScope ["rule", "thing", "tiles", "digits", "tile"] ["rule", "thing"] (defScope s_line_holds) := ⟨rfl, rfl, rfl, by decide +kernel, rfl, by decide +kernel, by decide +kernel⟩
abbrev s_law_cell_at : Stmt := topS 25
theorem sc_law_cell_at : FnScope ["script", "k"] ["script", "k"] (defScope s_law_cell_at) := ⟨rfl, rfl, rfl, by decide +kernel, rfl, by decide +kernel, by decide +kernel⟩
abbrev s_law_next : Stmt := topS 26
theorem sc_law_next : FnScope ["seed"] ["seed"] (defScope s_law_next) := ⟨rfl, rfl, rfl, by decide +kernel, rfl, by decide +kernel, by decide +kernel⟩
abbrev s_law_pen_of : Stmt := topS 27
theorem sc_law_pen_of : FnScope ["cell", "left"] ["cell"] (defScope s_law_pen_of) := ⟨rfl, rfl, rfl, by decide +kernel, rfl, by decide +kernel, by decide +kernel⟩
abbrev s_law_draw : Stmt := topS 28
theorem sc_law_draw : FnScope ["pen", "many", "found"] ["pen", "many"] (defScope s_law_draw) := ⟨rfl, rfl, rfl, by decide +kernel, rfl, by decide +kernel, by decide +kernel⟩
abbrev s_law_whole : Stmt := topS 29
theorem sc_law_whole : FnScope ["found"] ["found"] (defScope s_law_whole) := ⟨rfl, rfl, rfl, by decide +kernel, rfl, by decide +kernel, by decide +kernel⟩
abbrev s_law_kind_of_k12 : Stmt := topS 30
theorem sc_law_kind_of_k12 : FnScope ["e", "marks", "words"] ["e"] (defScope s_law_kind_of_k12) := ⟨rfl, rfl, rfl, by decide +kernel, rfl, by decide +kernel, by decide +kernel⟩
abbrev s_law_rule_by_k09 : Stmt := topS 31
theorem sc_law_rule_by_k09 : FnScope ["pen", "most", "letters", "high", "wide", "start", "tiles", "alike", "blocks", "tile", "rows", "row", "signs", "block", "column"] ["pen", "most"] (defScope s_law_rule_by_k09) := ⟨rfl, rfl, rfl, by decide +kernel, rfl, by decide +kernel, by decide +kernel⟩
abbrev s_law_tiles_of : Stmt := topS 32
theorem sc_law_tiles_of : FnScope ["rule", "tile", "block"] ["rule"] (defScope s_law_tiles_of) := ⟨rfl, rfl, rfl, by decide +kernel, rfl, by decide +kernel, by decide +kernel⟩
abbrev s_law_digits_good : Stmt := topS 33
theorem sc_law_digits_good : FnScope ["rule", "thing", "pair", "one"] ["rule", "thing"] (defScope s_law_digits_good) := ⟨rfl, rfl, rfl, by decide +kernel, rfl, by decide +kernel, by decide +kernel⟩
abbrev s_law_due_of_k13 : Stmt := topS 34
theorem sc_law_due_of_k13 : FnScope ["rule", "thing", "blocks", "k", "pair", "tile"] ["rule", "thing"] (defScope s_law_due_of_k13) := ⟨rfl, rfl, rfl, by decide +kernel, rfl, by decide +kernel, by decide +kernel⟩
abbrev s_law_line_of : Stmt := topS 35
theorem sc_law_line_of : FnScope ["pen", "rule", "blocks", "tiles", "digits", "turn"] ["pen", "rule"] (defScope s_law_line_of) := ⟨rfl, rfl, rfl, by decide +kernel, rfl, by decide +kernel, by decide +kernel⟩
abbrev s_law_odd_digits : Stmt := topS 36
theorem sc_law_odd_digits : FnScope ["pen", "rule", "digits", "spot", "pair", "some"] ["pen", "rule", "digits"] (defScope s_law_odd_digits) := ⟨rfl, rfl, rfl, by decide +kernel, rfl, by decide +kernel, by decide +kernel⟩
abbrev s_law_odd_of_k13 : Stmt := topS 37
theorem sc_law_odd_of_k13 : FnScope ["pen", "rule", "line", "tiles", "digits", "spot", "other", "some", "one"] ["pen", "rule", "line"] (defScope s_law_odd_of_k13) := ⟨rfl, rfl, rfl, by decide +kernel, rfl, by decide +kernel, by decide +kernel⟩
abbrev s_law_refused_k13 : Stmt := topS 38
theorem sc_law_refused_k13 : FnScope ["rule", "thing", "e"] ["rule", "thing"] (defScope s_law_refused_k13) := ⟨rfl, rfl, rfl, by decide +kernel, rfl, by decide +kernel, by decide +kernel⟩
abbrev s_law_right_k13 : Stmt := topS 39
theorem sc_law_right_k13 : FnScope ["rule", "thing", "due", "found"] ["rule", "thing"] (defScope s_law_right_k13) := ⟨rfl, rfl, rfl, by decide +kernel, rfl, by decide +kernel, by decide +kernel⟩
abbrev s_law_k13 : Stmt := topS 40
theorem sc_law_k13 : FnScope ["script", "cell", "pen", "rule", "line", "turn", "odd"] ["script"] (defScope s_law_k13) := ⟨rfl, rfl, rfl, by decide +kernel, rfl, by decide +kernel, by decide +kernel⟩
abbrev s_I_NoTile : Stmt := inClass (topS 7) 0
theorem sc_I_NoTile : FnScope ["self", "tile"] ["self", "tile"] (defScope s_I_NoTile) := ⟨rfl, rfl, rfl, by decide +kernel, rfl, by decide +kernel, by decide +kernel⟩
abbrev prog : Prog := PR
abbrev tbl (ca : Nat → Addr) : List (Nat × Addr × List Str) := [(1, ca 1, []), (5, ca 5, ["tile"])]
abbrev cl (ca : Nat → Addr) : Cls_ := ⟨tabOf (tbl ca), none⟩
structure Tx (K : PySem.W.Frag) (mg : Str → Option Value) (ad : Nat → Addr) (fds : Nat → FuncData) (tks : Nat → Tok) (ca ia : Nat → Addr) (ifd : Nat → FuncData) : Prop where
  f_is_whole : Fun K "is_whole" "is_whole" s_is_whole (ad 0) (fds 0)
  g_is_whole : mg "is_whole" = some (.ref (ad 0))
  b_is_whole : Binds K (fds 0) ["thing"] []
  f_is_tile : Fun K "is_tile" "is_tile" s_is_tile (ad 1) (fds 1)
  g_is_tile : mg "is_tile" = some (.ref (ad 1))
  b_is_tile : Binds K (fds 1) ["thing"] []
  f_tiles_of : Fun K "tiles_of" "tiles_of" s_tiles_of (ad 2) (fds 2)
  g_tiles_of : mg "tiles_of" = some (.ref (ad 2))
  b_tiles_of : Binds K (fds 2) ["rule"] []
  f_block_of : Fun K "block_of" "block_of" s_block_of (ad 3) (fds 3)
  g_block_of : mg "block_of" = some (.ref (ad 3))
  b_block_of : Binds K (fds 3) ["rule", "tile"] []
  f_line_by : Fun K "line_by" "line_by" s_line_by (ad 4) (fds 4)
  g_line_by : mg "line_by" = some (.ref (ad 4))
  b_line_by : Binds K (fds 4) ["rule", "tile", "digits"] []
  f_digits_good : Fun K "digits_good" "digits_good" s_digits_good (ad 5) (fds 5)
  g_digits_good : mg "digits_good" = some (.ref (ad 5))
  b_digits_good : Binds K (fds 5) ["rule", "thing"] []
  f_place_far : Fun K "place_far" "place_far" s_place_far (ad 6) (fds 6)
  g_place_far : mg "place_far" = some (.ref (ad 6))
  b_place_far : Binds K (fds 6) ["rule", "digits"] []
  f_line_holds : Fun K "line_holds" "line_holds" s_line_holds (ad 7) (fds 7)
  g_line_holds : mg "line_holds" = some (.ref (ad 7))
  b_line_holds : Binds K (fds 7) ["rule", "thing"] []
  f_law_cell_at : Fun K "_law_cell_at" "_law_cell_at" s_law_cell_at (ad 8) (fds 8)
  g_law_cell_at : mg "_law_cell_at" = some (.ref (ad 8))
  b_law_cell_at : Binds K (fds 8) ["script", "k"] []
  f_law_next : Fun K "_law_next" "_law_next" s_law_next (ad 9) (fds 9)
  g_law_next : mg "_law_next" = some (.ref (ad 9))
  b_law_next : Binds K (fds 9) ["seed"] []
  f_law_pen_of : Fun K "_law_pen_of" "_law_pen_of" s_law_pen_of (ad 10) (fds 10)
  g_law_pen_of : mg "_law_pen_of" = some (.ref (ad 10))
  b_law_pen_of : Binds K (fds 10) ["cell"] []
  f_law_draw : Fun K "_law_draw" "_law_draw" s_law_draw (ad 11) (fds 11)
  g_law_draw : mg "_law_draw" = some (.ref (ad 11))
  b_law_draw : Binds K (fds 11) ["pen", "many"] []
  f_law_whole : Fun K "_law_whole" "_law_whole" s_law_whole (ad 12) (fds 12)
  g_law_whole : mg "_law_whole" = some (.ref (ad 12))
  b_law_whole : Binds K (fds 12) ["found"] []
  f_law_kind_of_k12 : Fun K "_law_kind_of" "_law_kind_of" s_law_kind_of_k12 (ad 13) (fds 13)
  g_law_kind_of_k12 : mg "_law_kind_of" = some (.ref (ad 13))
  b_law_kind_of_k12 : Binds K (fds 13) ["e"] []
  f_law_rule_by_k09 : Fun K "_law_rule_by" "_law_rule_by" s_law_rule_by_k09 (ad 14) (fds 14)
  g_law_rule_by_k09 : mg "_law_rule_by" = some (.ref (ad 14))
  b_law_rule_by_k09 : Binds K (fds 14) ["pen", "most"] []
  f_law_tiles_of : Fun K "_law_tiles_of" "_law_tiles_of" s_law_tiles_of (ad 15) (fds 15)
  g_law_tiles_of : mg "_law_tiles_of" = some (.ref (ad 15))
  b_law_tiles_of : Binds K (fds 15) ["rule"] []
  f_law_digits_good : Fun K "_law_digits_good" "_law_digits_good" s_law_digits_good (ad 16) (fds 16)
  g_law_digits_good : mg "_law_digits_good" = some (.ref (ad 16))
  b_law_digits_good : Binds K (fds 16) ["rule", "thing"] []
  f_law_due_of_k13 : Fun K "_law_due_of" "_law_due_of" s_law_due_of_k13 (ad 17) (fds 17)
  g_law_due_of_k13 : mg "_law_due_of" = some (.ref (ad 17))
  b_law_due_of_k13 : Binds K (fds 17) ["rule", "thing"] []
  f_law_line_of : Fun K "_law_line_of" "_law_line_of" s_law_line_of (ad 18) (fds 18)
  g_law_line_of : mg "_law_line_of" = some (.ref (ad 18))
  b_law_line_of : Binds K (fds 18) ["pen", "rule"] []
  f_law_odd_digits : Fun K "_law_odd_digits" "_law_odd_digits" s_law_odd_digits (ad 19) (fds 19)
  g_law_odd_digits : mg "_law_odd_digits" = some (.ref (ad 19))
  b_law_odd_digits : Binds K (fds 19) ["pen", "rule", "digits"] []
  f_law_odd_of_k13 : Fun K "_law_odd_of" "_law_odd_of" s_law_odd_of_k13 (ad 20) (fds 20)
  g_law_odd_of_k13 : mg "_law_odd_of" = some (.ref (ad 20))
  b_law_odd_of_k13 : Binds K (fds 20) ["pen", "rule", "line"] []
  f_law_refused_k13 : Fun K "_law_refused" "_law_refused" s_law_refused_k13 (ad 21) (fds 21)
  g_law_refused_k13 : mg "_law_refused" = some (.ref (ad 21))
  b_law_refused_k13 : Binds K (fds 21) ["rule", "thing"] []
  f_law_right_k13 : Fun K "_law_right" "_law_right" s_law_right_k13 (ad 22) (fds 22)
  g_law_right_k13 : mg "_law_right" = some (.ref (ad 22))
  b_law_right_k13 : Binds K (fds 22) ["rule", "thing"] []
  f_law_k13 : Fun K "law" "law" s_law_k13 (ad 23) (fds 23)
  g_law_k13 : mg "law" = some (.ref (ad 23))
  b_law_k13 : Binds K (fds 23) ["script"] []
  z_ValueError : mg "ValueError" = none
  z_all : mg "all" = none
  z_bool : mg "bool" = none
  z_dict : mg "dict" = none
  z_enumerate : mg "enumerate" = none
  z_int : mg "int" = none
  z_isinstance : mg "isinstance" = none
  z_len : mg "len" = none
  z_list : mg "list" = none
  z_max : mg "max" = none
  z_range : mg "range" = none
  z_str : mg "str" = none
  z_tuple : mg "tuple" = none
  c_LETTERS : mg "LETTERS" = some (.str "abcdefghijklmnopqrstuvwxyz" (tks 0))
  c_MOST_GROWINGS : mg "MOST_GROWINGS" = some (.int 60 (tks 1))
  cg_NoFloor : mg "NoFloor" = some (.ref (ca 0))
  cg_NoPlace : mg "NoPlace" = some (.ref (ca 1))
  cg_NoNumber : mg "NoNumber" = some (.ref (ca 2))
  cg_NoRow : mg "NoRow" = some (.ref (ca 3))
  cg_Unlike : mg "Unlike" = some (.ref (ca 4))
  cg_NoTile : mg "NoTile" = some (.ref (ca 5))
  cg_NoRule : mg "NoRule" = some (.ref (ca 6))
  cg_NoText : mg "NoText" = some (.ref (ca 7))
  cg_TooGreat : mg "TooGreat" = some (.ref (ca 8))
  cg_FloorError : mg "FloorError" = some (.ref (ca 9))
  a_NoFloor : AskC K (ca 0)
  a_NoPlace : AskC K (ca 1)
  a_NoNumber : AskC K (ca 2)
  a_NoRow : AskC K (ca 3)
  a_Unlike : AskC K (ca 4)
  a_NoTile : AskC K (ca 5)
  a_NoRule : AskC K (ca 6)
  a_NoText : AskC K (ca 7)
  a_TooGreat : AskC K (ca 8)
  e_NoPlace : ExcC K (ca 1)
  r_NoPlace : RaiseC K mg "NoPlace" (ca 1)
  e_NoTile : ExcC K (ca 5)
  x_NoTile : OexC K (ca 5)
  xi_NoTile : PySem.W.findIn K (.ref (ca 5)) "__init__" = some (some (.ref (ia 5)))
  xt_NoTile : PySem.W.typeIn K (.ref (ia 5)) = some (.type "function")
  xn_NoTile : PySem.W.findIn K (.ref (ca 5)) "tile" = some none
  xf_NoTile : Fun K "__init__" "NoTile.__init__" s_I_NoTile (ia 5) (ifd 5)
  xb_NoTile : Binds K (ifd 5) ["self", "tile"] []
  p_NoPlace_NoFloor : PySem.W.subIn K (.ref (ca 1)) (.ref (ca 0)) = some false
  p_NoPlace_NoPlace : PySem.W.subIn K (.ref (ca 1)) (.ref (ca 1)) = some true
  p_NoPlace_NoNumber : PySem.W.subIn K (.ref (ca 1)) (.ref (ca 2)) = some false
  p_NoPlace_NoRow : PySem.W.subIn K (.ref (ca 1)) (.ref (ca 3)) = some false
  p_NoPlace_Unlike : PySem.W.subIn K (.ref (ca 1)) (.ref (ca 4)) = some false
  p_NoPlace_NoTile : PySem.W.subIn K (.ref (ca 1)) (.ref (ca 5)) = some false
  p_NoPlace_NoRule : PySem.W.subIn K (.ref (ca 1)) (.ref (ca 6)) = some false
  p_NoPlace_NoText : PySem.W.subIn K (.ref (ca 1)) (.ref (ca 7)) = some false
  p_NoPlace_TooGreat : PySem.W.subIn K (.ref (ca 1)) (.ref (ca 8)) = some false
  p_NoPlace_FloorError : PySem.W.subIn K (.ref (ca 1)) (.ref (ca 9)) = some true
  p_NoTile_NoFloor : PySem.W.subIn K (.ref (ca 5)) (.ref (ca 0)) = some false
  p_NoTile_NoPlace : PySem.W.subIn K (.ref (ca 5)) (.ref (ca 1)) = some false
  p_NoTile_NoNumber : PySem.W.subIn K (.ref (ca 5)) (.ref (ca 2)) = some false
  p_NoTile_NoRow : PySem.W.subIn K (.ref (ca 5)) (.ref (ca 3)) = some false
  p_NoTile_Unlike : PySem.W.subIn K (.ref (ca 5)) (.ref (ca 4)) = some false
  p_NoTile_NoTile : PySem.W.subIn K (.ref (ca 5)) (.ref (ca 5)) = some true
  p_NoTile_NoRule : PySem.W.subIn K (.ref (ca 5)) (.ref (ca 6)) = some false
  p_NoTile_NoText : PySem.W.subIn K (.ref (ca 5)) (.ref (ca 7)) = some false
  p_NoTile_TooGreat : PySem.W.subIn K (.ref (ca 5)) (.ref (ca 8)) = some false
  p_NoTile_FloorError : PySem.W.subIn K (.ref (ca 5)) (.ref (ca 9)) = some true
  v_NoPlace : PySem.W.subIn K (.ref (ca 1)) (.type "ValueError") = some true
  v_NoTile : PySem.W.subIn K (.ref (ca 5)) (.type "ValueError") = some true
  kb_FloorError : PySem.W.subIn K (.ref (ca 9)) (.type "BaseException") = some true
  kd_FloorError : PySem.W.hasDictIn K (ca 9) = true
  kt_FloorError : PySem.W.typeIn K (.ref (ca 9)) = some (.type "type")
section
variable {Pg : Program} {wd : World} {K : PySem.W.Frag} {mg : Str → Option Value} {base : Heap} {ad : Nat → Addr} {fds : Nat → FuncData} {tks : Nat → Tok} {ca ia : Nat → Addr} {ifd : Nat → FuncData} {k : Nat}
theorem Tx.isx_NoFloor (T : Tx K mg ad fds tks ca ia ifd) (hd : Option Hand) : IsxOk K ⟨tabOf (tbl ca), hd⟩ (.ref (ca 0)) (fun c => decide (c = 0)) := .of (all_cons ⟨T.e_NoPlace, kit_ask T.a_NoFloor T.p_NoPlace_NoFloor⟩ (all_cons ⟨T.e_NoTile, kit_ask T.a_NoFloor T.p_NoTile_NoFloor⟩ all_nil))
theorem Tx.isx_NoPlace (T : Tx K mg ad fds tks ca ia ifd) (hd : Option Hand) : IsxOk K ⟨tabOf (tbl ca), hd⟩ (.ref (ca 1)) (fun c => decide (c = 1)) := .of (all_cons ⟨T.e_NoPlace, kit_ask T.a_NoPlace T.p_NoPlace_NoPlace⟩ (all_cons ⟨T.e_NoTile, kit_ask T.a_NoPlace T.p_NoTile_NoPlace⟩ all_nil))
theorem Tx.isx_NoNumber (T : Tx K mg ad fds tks ca ia ifd) (hd : Option Hand) : IsxOk K ⟨tabOf (tbl ca), hd⟩ (.ref (ca 2)) (fun c => decide (c = 2)) := .of (all_cons ⟨T.e_NoPlace, kit_ask T.a_NoNumber T.p_NoPlace_NoNumber⟩ (all_cons ⟨T.e_NoTile, kit_ask T.a_NoNumber T.p_NoTile_NoNumber⟩ all_nil))
theorem Tx.isx_NoRow (T : Tx K mg ad fds tks ca ia ifd) (hd : Option Hand) : IsxOk K ⟨tabOf (tbl ca), hd⟩ (.ref (ca 3)) (fun c => decide (c = 3)) := .of (all_cons ⟨T.e_NoPlace, kit_ask T.a_NoRow T.p_NoPlace_NoRow⟩ (all_cons ⟨T.e_NoTile, kit_ask T.a_NoRow T.p_NoTile_NoRow⟩ all_nil))
theorem Tx.isx_Unlike (T : Tx K mg ad fds tks ca ia ifd) (hd : Option Hand) : IsxOk K ⟨tabOf (tbl ca), hd⟩ (.ref (ca 4)) (fun c => decide (c = 4)) := .of (all_cons ⟨T.e_NoPlace, kit_ask T.a_Unlike T.p_NoPlace_Unlike⟩ (all_cons ⟨T.e_NoTile, kit_ask T.a_Unlike T.p_NoTile_Unlike⟩ all_nil))
theorem Tx.isx_NoTile (T : Tx K mg ad fds tks ca ia ifd) (hd : Option Hand) : IsxOk K ⟨tabOf (tbl ca), hd⟩ (.ref (ca 5)) (fun c => decide (c = 5)) := .of (all_cons ⟨T.e_NoPlace, kit_ask T.a_NoTile T.p_NoPlace_NoTile⟩ (all_cons ⟨T.e_NoTile, kit_ask T.a_NoTile T.p_NoTile_NoTile⟩ all_nil))
theorem Tx.isx_NoRule (T : Tx K mg ad fds tks ca ia ifd) (hd : Option Hand) : IsxOk K ⟨tabOf (tbl ca), hd⟩ (.ref (ca 6)) (fun c => decide (c = 6)) := .of (all_cons ⟨T.e_NoPlace, kit_ask T.a_NoRule T.p_NoPlace_NoRule⟩ (all_cons ⟨T.e_NoTile, kit_ask T.a_NoRule T.p_NoTile_NoRule⟩ all_nil))
theorem Tx.isx_NoText (T : Tx K mg ad fds tks ca ia ifd) (hd : Option Hand) : IsxOk K ⟨tabOf (tbl ca), hd⟩ (.ref (ca 7)) (fun c => decide (c = 7)) := .of (all_cons ⟨T.e_NoPlace, kit_ask T.a_NoText T.p_NoPlace_NoText⟩ (all_cons ⟨T.e_NoTile, kit_ask T.a_NoText T.p_NoTile_NoText⟩ all_nil))
theorem Tx.isx_TooGreat (T : Tx K mg ad fds tks ca ia ifd) (hd : Option Hand) : IsxOk K ⟨tabOf (tbl ca), hd⟩ (.ref (ca 8)) (fun c => decide (c = 8)) := .of (all_cons ⟨T.e_NoPlace, kit_ask T.a_TooGreat T.p_NoPlace_TooGreat⟩ (all_cons ⟨T.e_NoTile, kit_ask T.a_TooGreat T.p_NoTile_TooGreat⟩ all_nil))
theorem Tx.isx_ValueError (T : Tx K mg ad fds tks ca ia ifd) (hd : Option Hand) : IsxOk K ⟨tabOf (tbl ca), hd⟩ (.type "ValueError") (fun _ => true) := .of (all_cons ⟨T.e_NoPlace, kit_ve T.v_NoPlace⟩ (all_cons ⟨T.e_NoTile, kit_ve T.v_NoTile⟩ all_nil))
theorem Tx.ck_FloorError (T : Tx K mg ad fds tks ca ia ifd) (hd : Option Hand) : CatchOk K ⟨tabOf (tbl ca), hd⟩ (.ref (ca 9)) (fun _ => true) := .of T.kb_FloorError T.kd_FloorError T.kt_FloorError (all_cons T.p_NoPlace_FloorError (all_cons T.p_NoTile_FloorError all_nil))
theorem Tx.ini_NoTile (T : Tx K mg ad fds tks ca ia ifd) (j : Nat) : FnOk Pg wd K mg base (L2N.CX Pg wd) (j + 1) (ia 5) (ifd 5) ["self", "tile"] (spI1 K "tile") := init1_ok T.xf_NoTile sc_I_NoTile fun cdv A outer s H E => pss_one (ps_ost (pe_var (i := 0) (by rfl) (by first | exact Or.inl rfl | exact Or.inr (Or.inl rfl) | exact Or.inr (Or.inr rfl)) (by decide) (by decide)) (pe_var (i := 1) (by rfl) (by first | exact Or.inl rfl | exact Or.inr (Or.inl rfl) | exact Or.inr (Or.inr rfl)) (by decide) (by decide)) (by rfl))
end
structure OkH (Pg : Program) (wd : World) (K : PySem.W.Frag) (mg : Str → Option Value) (base : Heap) (ad : Nat → Addr) (fds : Nat → FuncData) (ca : Nat → Addr) (k : Nat) : Prop where
  h_law_kind_of_k12 : ∀ h, FnE Pg wd K mg base (L2N.CX Pg wd) (k + 2) (ad 13) (fds 13) ["e"] (HandAt (cl ca).tab h) (spD K ((cl ca).hot h) 1 (run prog k 227))
structure Ok (Pg : Program) (wd : World) (K : PySem.W.Frag) (mg : Str → Option Value) (base : Heap) (ad : Nat → Addr) (fds : Nat → FuncData) (ca : Nat → Addr) (k : Nat) : Prop where
  c_is_whole : FnOk Pg wd K mg base (L2N.CX Pg wd) (k + 2) (ad 0) (fds 0) ["thing"] (spD K (cl ca) 1 (run prog k 62))
  c_is_tile : FnOk Pg wd K mg base (L2N.CX Pg wd) (k + 2) (ad 1) (fds 1) ["thing"] (spD K (cl ca) 1 (run prog k 61))
  c_tiles_of : FnOk Pg wd K mg base (L2N.CX Pg wd) (k + 2) (ad 2) (fds 2) ["rule"] (spD K (cl ca) 1 (run prog k 484))
  c_block_of : FnOk Pg wd K mg base (L2N.CX Pg wd) (k + 2) (ad 3) (fds 3) ["rule", "tile"] (spD K (cl ca) 2 (run prog k 8))
  c_line_by : FnOk Pg wd K mg base (L2N.CX Pg wd) (k + 2) (ad 4) (fds 4) ["rule", "tile", "digits"] (spD K (cl ca) 3 (run prog k 421))
  c_digits_good : FnOk Pg wd K mg base (L2N.CX Pg wd) (k + 2) (ad 5) (fds 5) ["rule", "thing"] (spD K (cl ca) 2 (run prog k 41))
  c_place_far : FnOk Pg wd K mg base (L2N.CX Pg wd) (k + 2) (ad 6) (fds 6) ["rule", "digits"] (spD K (cl ca) 2 (run prog k 447))
  c_line_holds : FnOk Pg wd K mg base (L2N.CX Pg wd) (k + 2) (ad 7) (fds 7) ["rule", "thing"] (spD K (cl ca) 2 (run prog k 423))
  c_law_cell_at : FnOk Pg wd K mg base (L2N.CX Pg wd) (k + 2) (ad 8) (fds 8) ["script", "k"] (spD K (cl ca) 2 (run prog k 86))
  c_law_next : FnOk Pg wd K mg base (L2N.CX Pg wd) (k + 2) (ad 9) (fds 9) ["seed"] (spD K (cl ca) 1 (run prog k 247))
  c_law_pen_of : FnOk Pg wd K mg base (L2N.CX Pg wd) (k + 2) (ad 10) (fds 10) ["cell"] (spD K (cl ca) 1 (run prog k 285))
  c_law_draw : FnOk Pg wd K mg base (L2N.CX Pg wd) (k + 2) (ad 11) (fds 11) ["pen", "many"] (spD K (cl ca) 2 (run prog k 111))
  c_law_whole : FnOk Pg wd K mg base (L2N.CX Pg wd) (k + 2) (ad 12) (fds 12) ["found"] (spD K (cl ca) 1 (run prog k 413))
  c_law_rule_by_k09 : FnOk Pg wd K mg base (L2N.CX Pg wd) (k + 2) (ad 14) (fds 14) ["pen", "most"] (spD K (cl ca) 2 (run prog k 343))
  c_law_tiles_of : FnOk Pg wd K mg base (L2N.CX Pg wd) (k + 2) (ad 15) (fds 15) ["rule"] (spD K (cl ca) 1 (run prog k 388))
  c_law_digits_good : FnOk Pg wd K mg base (L2N.CX Pg wd) (k + 2) (ad 16) (fds 16) ["rule", "thing"] (spD K (cl ca) 2 (run prog k 108))
  c_law_due_of_k13 : FnOk Pg wd K mg base (L2N.CX Pg wd) (k + 2) (ad 17) (fds 17) ["rule", "thing"] (spD K (cl ca) 2 (run prog k 122))
  c_law_line_of : FnOk Pg wd K mg base (L2N.CX Pg wd) (k + 2) (ad 18) (fds 18) ["pen", "rule"] (spD K (cl ca) 2 (run prog k 239))
  c_law_odd_digits : FnOk Pg wd K mg base (L2N.CX Pg wd) (k + 2) (ad 19) (fds 19) ["pen", "rule", "digits"] (spD K (cl ca) 3 (run prog k 255))
  c_law_odd_of_k13 : FnOk Pg wd K mg base (L2N.CX Pg wd) (k + 2) (ad 20) (fds 20) ["pen", "rule", "line"] (spD K (cl ca) 3 (run prog k 259))
  c_law_refused_k13 : FnOk Pg wd K mg base (L2N.CX Pg wd) (k + 2) (ad 21) (fds 21) ["rule", "thing"] (spD K (cl ca) 2 (run prog k 299))
  c_law_right_k13 : FnOk Pg wd K mg base (L2N.CX Pg wd) (k + 2) (ad 22) (fds 22) ["rule", "thing"] (spD K (cl ca) 2 (run prog k 314))
  c_law_k13 : FnOk Pg wd K mg base (L2N.CX Pg wd) (k + 2) (ad 23) (fds 23) ["script"] (spD K (cl ca) 1 (run prog k 174))
section
variable {Pg : Program} {wd : World} {K : PySem.W.Frag} {mg : Str → Option Value} {base : Heap} {ad : Nat → Addr} {fds : Nat → FuncData} {tks : Nat → Tok} {ca ia : Nat → Addr} {ifd : Nat → FuncData} {k : Nat}
theorem okH_law_kind_of_k12 (T : Tx K mg ad fds tks ca ia ifd) (CH : OkH Pg wd K mg base ad fds ca k) (h : Hand) : FnE Pg wd K mg base (L2N.CX Pg wd) (k + 3) (ad 13) (fds 13) ["e"] (HandAt (cl ca).tab h) (spD K ((cl ca).hot h) 1 (run prog (k + 1) 227)) := by
  refine fne_okD (rn := run prog k) (nv := 2) (body := ir_law_kind_of_k12.body) T.f_law_kind_of_k12 sc_law_kind_of_k12 rfl rfl fun cdv A outer s H E p hr hx => ?_
  exact (dss_cons (ds_set sc_law_kind_of_k12.nd (by rfl) (by first | exact Or.inl rfl | exact Or.inr rfl) ((fe_lst (da_cons (de_isx hx (T.isx_NoFloor _) (by rfl) T.z_isinstance (de_var 0 (by rfl) (by first | exact Or.inl rfl | exact Or.inr (Or.inl rfl) | exact Or.inr (Or.inr rfl)) (by decide) (by decide)) (pe_glob (by rfl) T.cg_NoFloor (v := .ref _) rfl (by decide)) (fun _ r => r) (by rfl) (by rfl) (by rfl)) (da_cons (de_isx hx (T.isx_NoPlace _) (by rfl) T.z_isinstance (de_var 0 (by rfl) (by first | exact Or.inl rfl | exact Or.inr (Or.inl rfl) | exact Or.inr (Or.inr rfl)) (by decide) (by decide)) (pe_glob (by rfl) T.cg_NoPlace (v := .ref _) rfl (by decide)) (fun _ r => r) (by rfl) (by rfl) (by rfl)) da_nil (by rfl)) (by rfl)) (by decide))).new (by rfl) (Or.inl rfl))
  (dss_cons (ds_set sc_law_kind_of_k12.nd (by rfl) (by first | exact Or.inl rfl | exact Or.inr rfl) (fe_bin op_cat of_cat catP_lst (de_var 1 (by rfl) (by first | exact Or.inl rfl | exact Or.inr (Or.inl rfl) | exact Or.inr (Or.inr rfl)) (by decide) (by decide)) ((fe_lst (da_cons (de_isx hx (T.isx_NoNumber _) (by rfl) T.z_isinstance (de_var 0 (by rfl) (by first | exact Or.inl rfl | exact Or.inr (Or.inl rfl) | exact Or.inr (Or.inr rfl)) (by decide) (by decide)) (pe_glob (by rfl) T.cg_NoNumber (v := .ref _) rfl (by decide)) (fun _ r => r) (by rfl) (by rfl) (by rfl)) (da_cons (de_isx hx (T.isx_NoRow _) (by rfl) T.z_isinstance (de_var 0 (by rfl) (by first | exact Or.inl rfl | exact Or.inr (Or.inl rfl) | exact Or.inr (Or.inr rfl)) (by decide) (by decide)) (pe_glob (by rfl) T.cg_NoRow (v := .ref _) rfl (by decide)) (fun _ r => r) (by rfl) (by rfl) (by rfl)) da_nil (by rfl)) (by rfl)) (by decide))).de).new (by rfl) (Or.inl rfl))
  (dss_cons (ds_set sc_law_kind_of_k12.nd (by rfl) (by first | exact Or.inl rfl | exact Or.inr rfl) (fe_bin op_cat of_cat catP_lst (de_var 1 (by rfl) (by first | exact Or.inl rfl | exact Or.inr (Or.inl rfl) | exact Or.inr (Or.inr rfl)) (by decide) (by decide)) ((fe_lst (da_cons (de_isx hx (T.isx_Unlike _) (by rfl) T.z_isinstance (de_var 0 (by rfl) (by first | exact Or.inl rfl | exact Or.inr (Or.inl rfl) | exact Or.inr (Or.inr rfl)) (by decide) (by decide)) (pe_glob (by rfl) T.cg_Unlike (v := .ref _) rfl (by decide)) (fun _ r => r) (by rfl) (by rfl) (by rfl)) (da_cons (de_isx hx (T.isx_NoTile _) (by rfl) T.z_isinstance (de_var 0 (by rfl) (by first | exact Or.inl rfl | exact Or.inr (Or.inl rfl) | exact Or.inr (Or.inr rfl)) (by decide) (by decide)) (pe_glob (by rfl) T.cg_NoTile (v := .ref _) rfl (by decide)) (fun _ r => r) (by rfl) (by rfl) (by rfl)) da_nil (by rfl)) (by rfl)) (by decide))).de).new (by rfl) (Or.inl rfl))
  (dss_cons (ds_set sc_law_kind_of_k12.nd (by rfl) (by first | exact Or.inl rfl | exact Or.inr rfl) (fe_bin op_cat of_cat catP_lst (de_var 1 (by rfl) (by first | exact Or.inl rfl | exact Or.inr (Or.inl rfl) | exact Or.inr (Or.inr rfl)) (by decide) (by decide)) ((fe_lst (da_cons (de_isx hx (T.isx_NoRule _) (by rfl) T.z_isinstance (de_var 0 (by rfl) (by first | exact Or.inl rfl | exact Or.inr (Or.inl rfl) | exact Or.inr (Or.inr rfl)) (by decide) (by decide)) (pe_glob (by rfl) T.cg_NoRule (v := .ref _) rfl (by decide)) (fun _ r => r) (by rfl) (by rfl) (by rfl)) (da_cons (de_isx hx (T.isx_NoText _) (by rfl) T.z_isinstance (de_var 0 (by rfl) (by first | exact Or.inl rfl | exact Or.inr (Or.inl rfl) | exact Or.inr (Or.inr rfl)) (by decide) (by decide)) (pe_glob (by rfl) T.cg_NoText (v := .ref _) rfl (by decide)) (fun _ r => r) (by rfl) (by rfl) (by rfl)) da_nil (by rfl)) (by rfl)) (by decide))).de).new (by rfl) (Or.inl rfl))
  (dss_cons (ds_expr (de_mut (by decide) PySem.F.plainAttrs_list PySem.F.slot_list_append PySem.F.type_list_append mt_appendR om_append appendM_ty (de_var 1 (by rfl) (by first | exact Or.inl rfl | exact Or.inr (Or.inl rfl) | exact Or.inr (Or.inr rfl)) (by decide) (by decide)) (da_cons (de_isx hx (T.isx_TooGreat _) (by rfl) T.z_isinstance (de_var 0 (by rfl) (by first | exact Or.inl rfl | exact Or.inr (Or.inl rfl) | exact Or.inr (Or.inr rfl)) (by decide) (by decide)) (pe_glob (by rfl) T.cg_TooGreat (v := .ref _) rfl (by decide)) (fun _ r => r) (by rfl) (by rfl) (by rfl)) da_nil (by rfl)) (by rfl) (by rfl) (by rfl) (by rfl) (by rfl)) (by rfl))
  (dss_cons (ds_if (dw_or (dt_not (dt_val (de_isx hx (T.isx_ValueError _) (by rfl) T.z_isinstance (de_var 0 (by rfl) (by first | exact Or.inl rfl | exact Or.inr (Or.inl rfl) | exact Or.inr (Or.inr rfl)) (by decide) (by decide)) (pe_bltn (v := .ty "ValueError") (by rfl) T.z_ValueError (by decide +kernel) rfl (by decide) (by decide)) (fun _ r => r) (by rfl) (by rfl) (by rfl)) (fun _ => (by rfl)))) (dw_or1 (dt_cmp (op_neD (roomH_ok hr).2.2.1) ov_ne (de_meth (by decide) PySem.F.plainAttrs_list PySem.F.slot_list_count PySem.F.type_list_count (mt_countD (roomH_ok hr).2.1) ov_count (de_var 1 (by rfl) (by first | exact Or.inl rfl | exact Or.inr (Or.inl rfl) | exact Or.inr (Or.inr rfl)) (by decide) (by decide)) (da_cons de_bl da_nil (by rfl)) (by rfl) (by rfl) (by rfl) (by rfl) (by rfl)) de_int (nomark _)))).t (dss_cons (ds_ret (de_str (by decide +kernel) (okS_of (by decide +kernel))))
  dss_nil) dss_nil)
  (dss_cons (ds_set sc_law_kind_of_k12.nd (by rfl) (by first | exact Or.inl rfl | exact Or.inr rfl) ((fe_lst (da_cons (de_str (by decide +kernel) (okS_of (by decide +kernel))) (da_cons (de_str (by decide +kernel) (okS_of (by decide +kernel))) (da_cons (de_str (by decide +kernel) (okS_of (by decide +kernel))) (da_cons (de_str (by decide +kernel) (okS_of (by decide +kernel))) (da_cons (de_str (by decide +kernel) (okS_of (by decide +kernel))) (da_cons (de_str (by decide +kernel) (okS_of (by decide +kernel))) (da_cons (de_str (by decide +kernel) (okS_of (by decide +kernel))) (da_cons (de_str (by decide +kernel) (okS_of (by decide +kernel))) (da_cons (de_str (by decide +kernel) (okS_of (by decide +kernel))) da_nil (by rfl)) (by rfl)) (by rfl)) (by rfl)) (by rfl)) (by rfl)) (by rfl)) (by rfl)) (by rfl)) (by decide))).de (by rfl) (Or.inl rfl))
  (dss_cons (ds_ret (de_ix ix_seq ov_ix (de_var 2 (by rfl) (by first | exact Or.inl rfl | exact Or.inr (Or.inl rfl) | exact Or.inr (Or.inr rfl)) (by decide) (by decide)) (de_meth (by decide) PySem.F.plainAttrs_list PySem.F.slot_list_index PySem.F.type_list_index (mt_indexD (roomH_ok hr).2.1) ov_index (de_var 1 (by rfl) (by first | exact Or.inl rfl | exact Or.inr (Or.inl rfl) | exact Or.inr (Or.inr rfl)) (by decide) (by decide)) (da_cons de_bl da_nil (by rfl)) (by rfl) (by rfl) (by rfl) (by rfl) (by rfl)) (fun _ _ => (by rfl))))
  dss_nil))))))))
theorem all_okH (T : Tx K mg ad fds tks ca ia ifd) : ∀ k, OkH Pg wd K mg base ad fds ca k
  | 0 => by
    have z : ∀ {f : Addr} {fd : FuncData} {ps : List Str} {n i : Nat} (h : Hand), ps.length = n → FnE Pg wd K mg base (L2N.CX Pg wd) 2 f fd ps (HandAt (cl ca).tab h) (spD K ((cl ca).hot h) n (run prog 0 i)) := fun {f fd ps n i} h hl => ⟨fun vs H Q E q => by
      obtain ⟨m, B, S, ds, hS, rd, hd, q⟩ := q
      exact q.elim, fun p okp A outer s H args us vs Q E hr hot pin e0 hb hv q => by
      obtain ⟨m, B, S, ds, hS, rd, hd, q⟩ := q
      exact q.elim⟩
    exact ⟨fun h => z h rfl⟩
  | k + 1 => by
    have CH : OkH Pg wd K mg base ad fds ca k := all_okH T k
    exact ⟨okH_law_kind_of_k12 T CH⟩
theorem ok_is_whole (T : Tx K mg ad fds tks ca ia ifd) (C : Ok Pg wd K mg base ad fds ca k) (CH : OkH Pg wd K mg base ad fds ca k) : FnOk Pg wd K mg base (L2N.CX Pg wd) (k + 3) (ad 0) (fds 0) ["thing"] (spD K (cl ca) 1 (run prog (k + 1) 62)) := by
  refine fn_okD (rn := run prog k) (nv := 0) (body := ir_is_whole.body) T.f_is_whole sc_is_whole rfl rfl fun cdv A outer s H E hr => ?_
  exact (dss_cons (ds_ret (de_and (de_isi (T := "int") (.inr (.inl rfl)) (by rfl) (by rfl) T.z_isinstance (by rfl) T.z_int (by decide +kernel) (by decide) (by decide) (de_var 0 (by rfl) (by first | exact Or.inl rfl | exact Or.inr (Or.inl rfl) | exact Or.inr (Or.inr rfl)) (by decide) (by decide)) (by rfl) (by rfl) (by rfl)) (de_one (de_not (de_isi (T := "bool") (.inl rfl) (by rfl) (by rfl) T.z_isinstance (by rfl) T.z_bool (by decide +kernel) (by decide) (by decide) (de_var 0 (by rfl) (by first | exact Or.inl rfl | exact Or.inr (Or.inl rfl) | exact Or.inr (Or.inr rfl)) (by decide) (by decide)) (by rfl) (by rfl) (by rfl))))))
  dss_nil)
theorem ok_is_tile (T : Tx K mg ad fds tks ca ia ifd) (C : Ok Pg wd K mg base ad fds ca k) (CH : OkH Pg wd K mg base ad fds ca k) : FnOk Pg wd K mg base (L2N.CX Pg wd) (k + 3) (ad 1) (fds 1) ["thing"] (spD K (cl ca) 1 (run prog (k + 1) 61)) := by
  refine fn_okD (rn := run prog k) (nv := 0) (body := ir_is_tile.body) T.f_is_tile sc_is_tile rfl rfl fun cdv A outer s H E hr => ?_
  exact (dss_cons (ds_ret (de_and (de_isi (T := "str") (.inr (.inr (.inl rfl))) (by rfl) (by rfl) T.z_isinstance (by rfl) T.z_str (by decide +kernel) (by decide) (by decide) (de_var 0 (by rfl) (by first | exact Or.inl rfl | exact Or.inr (Or.inl rfl) | exact Or.inr (Or.inr rfl)) (by decide) (by decide)) (by rfl) (by rfl) (by rfl)) (de_and (de_cmp (op_eqD hr.units) ov_eq (de_callB call_len ov_lenQ (by rfl) T.z_len (by decide +kernel) (da_cons (de_var 0 (by rfl) (by first | exact Or.inl rfl | exact Or.inr (Or.inl rfl) | exact Or.inr (Or.inr rfl)) (by decide) (by decide)) da_nil (by rfl)) (by decide) (by decide) (by rfl) (by rfl)) de_int (nomark _)) (de_one (de_cmp op_in_sign ov_inSign (de_var 0 (by rfl) (by first | exact Or.inl rfl | exact Or.inr (Or.inl rfl) | exact Or.inr (Or.inr rfl)) (by decide) (by decide)) (de_globS (by rfl) T.c_LETTERS (by decide +kernel) (okS_of (by decide +kernel)) (by decide)) (by rfl))))))
  dss_nil)
theorem ok_tiles_of (T : Tx K mg ad fds tks ca ia ifd) (C : Ok Pg wd K mg base ad fds ca k) (CH : OkH Pg wd K mg base ad fds ca k) : FnOk Pg wd K mg base (L2N.CX Pg wd) (k + 3) (ad 2) (fds 2) ["rule"] (spD K (cl ca) 1 (run prog (k + 1) 484)) := by
  refine fn_okD (rn := run prog k) (nv := 2) (body := ir_tiles_of.body) T.f_tiles_of sc_tiles_of rfl rfl fun cdv A outer s H E hr => ?_
  exact (dss_cons (ds_ret ((fe_comp (own := [("tile", 1), ("block", 2)]) (by rfl) sc_tiles_of.nd (di_any (de_ix ix_seq ov_ix (de_var 0 (by rfl) (by first | exact Or.inl rfl | exact Or.inr (Or.inl rfl) | exact Or.inr (Or.inr rfl)) (by decide) (by decide)) de_int (fun _ _ => (by rfl)))) (blkOk_by (N := ["rule", "tile", "block"]) (sc := defScope s_tiles_of) (by decide +kernel)) (by decide) (fun _ _ _ _ _ => (dgt_tup (by rfl) (pgs_cons (pg_name sc_tiles_of.nd (by rfl) (by first | exact Or.inl rfl | exact Or.inr rfl) (by first | exact Or.inl rfl | exact Or.inr rfl)) (pgs_cons (pg_name sc_tiles_of.nd (by rfl) (by first | exact Or.inl rfl | exact Or.inr rfl) (by first | exact Or.inl rfl | exact Or.inr rfl)) pgs_nil)) (by rfl) (by rfl))) (fun _ _ _ _ _ => dts_nil) (fun _ _ _ _ _ => (de_var 1 (by rfl) (by first | exact Or.inl rfl | exact Or.inr (Or.inl rfl) | exact Or.inr (Or.inr rfl)) (by decide) (by decide))) (fun _ => (by rfl)))).de)
  dss_nil)
theorem ok_block_of (T : Tx K mg ad fds tks ca ia ifd) (C : Ok Pg wd K mg base ad fds ca k) (CH : OkH Pg wd K mg base ad fds ca k) : FnOk Pg wd K mg base (L2N.CX Pg wd) (k + 3) (ad 3) (fds 3) ["rule", "tile"] (spD K (cl ca) 2 (run prog (k + 1) 8)) := by
  refine fn_okD (rn := run prog k) (nv := 2) (body := ir_block_of.body) T.f_block_of sc_block_of rfl rfl fun cdv A outer s H E hr => ?_
  exact (dss_cons (ds_for (passes_of rfl) (by rfl) (di_any (de_ix ix_seq ov_ix (de_var 0 (by rfl) (by first | exact Or.inl rfl | exact Or.inr (Or.inl rfl) | exact Or.inr (Or.inr rfl)) (by decide) (by decide)) de_int (fun _ _ => (by rfl)))) (dg_tup (by rfl) (pgs_cons (pg_name sc_block_of.nd (by rfl) (by first | exact Or.inl rfl | exact Or.inr rfl) (by first | exact Or.inl rfl | exact Or.inr rfl)) (pgs_cons (pg_name sc_block_of.nd (by rfl) (by first | exact Or.inl rfl | exact Or.inr rfl) (by first | exact Or.inl rfl | exact Or.inr rfl)) pgs_nil)) (by rfl) (by rfl)) (dss_cons (ds_if (dt_cmp (op_eqD hr.units) ov_eq (de_var 2 (by rfl) (by first | exact Or.inl rfl | exact Or.inr (Or.inl rfl) | exact Or.inr (Or.inr rfl)) (by decide) (by decide)) (de_var 1 (by rfl) (by first | exact Or.inl rfl | exact Or.inr (Or.inl rfl) | exact Or.inr (Or.inr rfl)) (by decide) (by decide)) (nomark _)) (dss_cons (ds_ret (de_var 3 (by rfl) (by first | exact Or.inl rfl | exact Or.inr (Or.inl rfl) | exact Or.inr (Or.inr rfl)) (by decide) (by decide)))
  dss_nil) dss_nil)
  dss_nil) (fun _ => (by rfl)))
  (dss_cons (ds_raise1 (by rfl) (L2N.takes_of rfl rfl rfl rfl) T.x_NoTile T.xi_NoTile T.xt_NoTile T.xn_NoTile (T.ini_NoTile 0) (hr.mono (by omega)) T.xb_NoTile (by rfl) T.cg_NoTile (by rfl) (de_var 1 (by rfl) (by first | exact Or.inl rfl | exact Or.inr (Or.inl rfl) | exact Or.inr (Or.inr rfl)) (by decide) (by decide)) (by decide) (by rfl) (by rfl))
  dss_nil))
theorem ok_line_by (T : Tx K mg ad fds tks ca ia ifd) (C : Ok Pg wd K mg base ad fds ca k) (CH : OkH Pg wd K mg base ad fds ca k) : FnOk Pg wd K mg base (L2N.CX Pg wd) (k + 3) (ad 4) (fds 4) ["rule", "tile", "digits"] (spD K (cl ca) 3 (run prog (k + 1) 421)) := by
  refine fn_okD (rn := run prog k) (nv := 3) (body := ir_line_by.body) T.f_line_by sc_line_by rfl rfl fun cdv A outer s H E hr => ?_
  exact (dss_cons (ds_set sc_line_by.nd (by rfl) (by first | exact Or.inl rfl | exact Or.inr rfl) ((fe_lst (da_cons (de_var 1 (by rfl) (by first | exact Or.inl rfl | exact Or.inr (Or.inl rfl) | exact Or.inr (Or.inr rfl)) (by decide) (by decide)) da_nil (by rfl)) (by decide))).new (by rfl) (Or.inl rfl))
  (dss_cons (ds_for (passes_of rfl) (by rfl) (di_any (de_var 2 (by rfl) (by first | exact Or.inl rfl | exact Or.inr (Or.inl rfl) | exact Or.inr (Or.inr rfl)) (by decide) (by decide))) (dg_tup (by rfl) (pgs_cons (pg_name sc_line_by.nd (by rfl) (by first | exact Or.inl rfl | exact Or.inr rfl) (by first | exact Or.inl rfl | exact Or.inr rfl)) (pgs_cons (pg_name sc_line_by.nd (by rfl) (by first | exact Or.inl rfl | exact Or.inr rfl) (by first | exact Or.inl rfl | exact Or.inr rfl)) pgs_nil)) (by rfl) (by rfl)) (dss_cons (ds_expr (de_mut (by decide) PySem.F.plainAttrs_list PySem.F.slot_list_append PySem.F.type_list_append mt_appendR om_append appendM_ty (de_var 3 (by rfl) (by first | exact Or.inl rfl | exact Or.inr (Or.inl rfl) | exact Or.inr (Or.inr rfl)) (by decide) (by decide)) (da_cons (de_ix ix_seq ov_ix (de_ix ix_seq ov_ix (de_call C.c_block_of hr (by rfl) T.g_block_of T.f_block_of.kp T.b_block_of (L2N.takes_of rfl rfl rfl rfl) (da_cons (de_var 0 (by rfl) (by first | exact Or.inl rfl | exact Or.inr (Or.inl rfl) | exact Or.inr (Or.inr rfl)) (by decide) (by decide)) (da_cons (de_ix ix_seq ov_ix (de_var 3 (by rfl) (by first | exact Or.inl rfl | exact Or.inr (Or.inl rfl) | exact Or.inr (Or.inr rfl)) (by decide) (by decide)) (de_un un_neg ov_neg de_int) (fun _ _ => (by rfl))) da_nil (by rfl)) (by rfl)) (by rfl) (by decide) (by rfl) (by rfl)) (de_var 4 (by rfl) (by first | exact Or.inl rfl | exact Or.inr (Or.inl rfl) | exact Or.inr (Or.inr rfl)) (by decide) (by decide)) (fun _ _ => (by rfl))) (de_var 5 (by rfl) (by first | exact Or.inl rfl | exact Or.inr (Or.inl rfl) | exact Or.inr (Or.inr rfl)) (by decide) (by decide)) (fun _ _ => (by rfl))) da_nil (by rfl)) (by rfl) (by rfl) (by rfl) (by rfl) (by rfl)) (by rfl))
  dss_nil) (fun _ => (by rfl)))
  (dss_cons (ds_ret (de_var 3 (by rfl) (by first | exact Or.inl rfl | exact Or.inr (Or.inl rfl) | exact Or.inr (Or.inr rfl)) (by decide) (by decide)))
  dss_nil)))
theorem ok_digits_good (T : Tx K mg ad fds tks ca ia ifd) (C : Ok Pg wd K mg base ad fds ca k) (CH : OkH Pg wd K mg base ad fds ca k) : FnOk Pg wd K mg base (L2N.CX Pg wd) (k + 3) (ad 5) (fds 5) ["rule", "thing"] (spD K (cl ca) 2 (run prog (k + 1) 41)) := by
  refine fn_okD (rn := run prog k) (nv := 1) (body := ir_digits_good.body) T.f_digits_good sc_digits_good rfl rfl fun cdv A outer s H E hr => ?_
  exact (dss_cons (ds_if (dt_not (dt_val (de_isi (T := "list") (.inr (.inr (.inr (.inr (.inl rfl))))) (by rfl) (by rfl) T.z_isinstance (by rfl) T.z_list (by decide +kernel) (by decide) (by decide) (de_var 1 (by rfl) (by first | exact Or.inl rfl | exact Or.inr (Or.inl rfl) | exact Or.inr (Or.inr rfl)) (by decide) (by decide)) (by rfl) (by rfl) (by rfl)) (fun _ => (by rfl)))) (dss_cons (ds_ret de_bl)
  dss_nil) dss_nil)
  (dss_cons (ds_for (passes_of rfl) (by rfl) (di_any (de_var 1 (by rfl) (by first | exact Or.inl rfl | exact Or.inr (Or.inl rfl) | exact Or.inr (Or.inr rfl)) (by decide) (by decide))) (dg_name sc_digits_good.nd (by rfl) (by first | exact Or.inl rfl | exact Or.inr rfl) (by first | exact Or.inl rfl | exact Or.inr rfl)) (dss_cons (ds_if (dw_or (dt_not (dt_val (de_isi (T := "tuple") (.inr (.inr (.inr (.inl rfl)))) (by rfl) (by rfl) T.z_isinstance (by rfl) T.z_tuple (by decide +kernel) (by decide) (by decide) (de_var 2 (by rfl) (by first | exact Or.inl rfl | exact Or.inr (Or.inl rfl) | exact Or.inr (Or.inr rfl)) (by decide) (by decide)) (by rfl) (by rfl) (by rfl)) (fun _ => (by rfl)))) (dw_or (dt_cmp (op_neD hr.units) ov_ne (de_callB call_len ov_lenQ (by rfl) T.z_len (by decide +kernel) (da_cons (de_var 2 (by rfl) (by first | exact Or.inl rfl | exact Or.inr (Or.inl rfl) | exact Or.inr (Or.inr rfl)) (by decide) (by decide)) da_nil (by rfl)) (by decide) (by decide) (by rfl) (by rfl)) de_int (nomark _)) (dw_or (dt_not (dt_val (de_call C.c_is_whole hr (by rfl) T.g_is_whole T.f_is_whole.kp T.b_is_whole (L2N.takes_of rfl rfl rfl rfl) (da_cons (de_ix ix_seq ov_ix (de_var 2 (by rfl) (by first | exact Or.inl rfl | exact Or.inr (Or.inl rfl) | exact Or.inr (Or.inr rfl)) (by decide) (by decide)) de_int (fun _ _ => (by rfl))) da_nil (by rfl)) (by rfl) (by decide) (by rfl) (by rfl)) (fun _ => (by rfl)))) (dw_or1 (dt_not (dt_val (de_call C.c_is_whole hr (by rfl) T.g_is_whole T.f_is_whole.kp T.b_is_whole (L2N.takes_of rfl rfl rfl rfl) (da_cons (de_ix ix_seq ov_ix (de_var 2 (by rfl) (by first | exact Or.inl rfl | exact Or.inr (Or.inl rfl) | exact Or.inr (Or.inr rfl)) (by decide) (by decide)) de_int (fun _ _ => (by rfl))) da_nil (by rfl)) (by rfl) (by decide) (by rfl) (by rfl)) (fun _ => (by rfl)))))))).t (dss_cons (ds_ret de_bl)
  dss_nil) dss_nil)
  (dss_cons (ds_if (dw_or (dt_not (dt_chain op_le op_lt ov_le ov_lt de_int (de_ix ix_seq ov_ix (de_var 2 (by rfl) (by first | exact Or.inl rfl | exact Or.inr (Or.inl rfl) | exact Or.inr (Or.inr rfl)) (by decide) (by decide)) de_int (fun _ _ => (by rfl))) (de_ix ix_seq ov_ix (de_var 0 (by rfl) (by first | exact Or.inl rfl | exact Or.inr (Or.inl rfl) | exact Or.inr (Or.inr rfl)) (by decide) (by decide)) de_int (fun _ _ => (by rfl))) (by first | rfl | with_unfolding_all rfl))) (dw_or1 (dt_not (dt_chain op_le op_lt ov_le ov_lt de_int (de_ix ix_seq ov_ix (de_var 2 (by rfl) (by first | exact Or.inl rfl | exact Or.inr (Or.inl rfl) | exact Or.inr (Or.inr rfl)) (by decide) (by decide)) de_int (fun _ _ => (by rfl))) (de_ix ix_seq ov_ix (de_var 0 (by rfl) (by first | exact Or.inl rfl | exact Or.inr (Or.inl rfl) | exact Or.inr (Or.inr rfl)) (by decide) (by decide)) de_int (fun _ _ => (by rfl))) (by first | rfl | with_unfolding_all rfl))))).t (dss_cons (ds_ret de_bl)
  dss_nil) dss_nil)
  dss_nil)) (fun _ => (by rfl)))
  (dss_cons (ds_ret de_bl)
  dss_nil)))
theorem ok_place_far (T : Tx K mg ad fds tks ca ia ifd) (C : Ok Pg wd K mg base ad fds ca k) (CH : OkH Pg wd K mg base ad fds ca k) : FnOk Pg wd K mg base (L2N.CX Pg wd) (k + 3) (ad 6) (fds 6) ["rule", "digits"] (spD K (cl ca) 2 (run prog (k + 1) 447)) := by
  refine fn_okD (rn := run prog k) (nv := 4) (body := ir_place_far.body) T.f_place_far sc_place_far rfl rfl fun cdv A outer s H E hr => ?_
  exact (dss_cons (ds_if (dw_or (dt_not (dt_val (de_call C.c_digits_good hr (by rfl) T.g_digits_good T.f_digits_good.kp T.b_digits_good (L2N.takes_of rfl rfl rfl rfl) (da_cons (de_var 0 (by rfl) (by first | exact Or.inl rfl | exact Or.inr (Or.inl rfl) | exact Or.inr (Or.inr rfl)) (by decide) (by decide)) (da_cons (de_var 1 (by rfl) (by first | exact Or.inl rfl | exact Or.inr (Or.inl rfl) | exact Or.inr (Or.inr rfl)) (by decide) (by decide)) da_nil (by rfl)) (by rfl)) (by rfl) (by decide) (by rfl) (by rfl)) (fun _ => (by rfl)))) (dw_or1 (dt_cmp op_gt ov_gt (de_callB call_len ov_lenQ (by rfl) T.z_len (by decide +kernel) (da_cons (de_var 1 (by rfl) (by first | exact Or.inl rfl | exact Or.inr (Or.inl rfl) | exact Or.inr (Or.inr rfl)) (by decide) (by decide)) da_nil (by rfl)) (by decide) (by decide) (by rfl) (by rfl)) (de_globI (by rfl) T.c_MOST_GROWINGS (by decide)) (nomark _)))).t (dss_cons (ds_raise0 (by rfl) (L2N.takes_of rfl rfl rfl rfl) T.r_NoPlace (by rfl) (by decide) (by rfl))
  dss_nil) dss_nil)
  (dss_cons (ds_set sc_place_far.nd (by rfl) (by first | exact Or.inl rfl | exact Or.inr rfl) de_int (by rfl) (Or.inl rfl))
  (dss_cons (ds_set sc_place_far.nd (by rfl) (by first | exact Or.inl rfl | exact Or.inr rfl) de_int (by rfl) (Or.inl rfl))
  (dss_cons (ds_for (passes_of rfl) (by rfl) (di_any (de_var 1 (by rfl) (by first | exact Or.inl rfl | exact Or.inr (Or.inl rfl) | exact Or.inr (Or.inr rfl)) (by decide) (by decide))) (dg_tup (by rfl) (pgs_cons (pg_name sc_place_far.nd (by rfl) (by first | exact Or.inl rfl | exact Or.inr rfl) (by first | exact Or.inl rfl | exact Or.inr rfl)) (pgs_cons (pg_name sc_place_far.nd (by rfl) (by first | exact Or.inl rfl | exact Or.inr rfl) (by first | exact Or.inl rfl | exact Or.inr rfl)) pgs_nil)) (by rfl) (by rfl)) (dss_cons (ds_set sc_place_far.nd (by rfl) (by first | exact Or.inl rfl | exact Or.inr rfl) (de_bin op_addAll ov_add (de_bin op_mulAll ov_mul (de_var 2 (by rfl) (by first | exact Or.inl rfl | exact Or.inr (Or.inl rfl) | exact Or.inr (Or.inr rfl)) (by decide) (by decide)) (de_ix ix_seq ov_ix (de_var 0 (by rfl) (by first | exact Or.inl rfl | exact Or.inr (Or.inl rfl) | exact Or.inr (Or.inr rfl)) (by decide) (by decide)) de_int (fun _ _ => (by rfl)))) (de_var 4 (by rfl) (by first | exact Or.inl rfl | exact Or.inr (Or.inl rfl) | exact Or.inr (Or.inr rfl)) (by decide) (by decide))) (by rfl) (Or.inl rfl))
  (dss_cons (ds_set sc_place_far.nd (by rfl) (by first | exact Or.inl rfl | exact Or.inr rfl) (de_bin op_addAll ov_add (de_bin op_mulAll ov_mul (de_var 3 (by rfl) (by first | exact Or.inl rfl | exact Or.inr (Or.inl rfl) | exact Or.inr (Or.inr rfl)) (by decide) (by decide)) (de_ix ix_seq ov_ix (de_var 0 (by rfl) (by first | exact Or.inl rfl | exact Or.inr (Or.inl rfl) | exact Or.inr (Or.inr rfl)) (by decide) (by decide)) de_int (fun _ _ => (by rfl)))) (de_var 5 (by rfl) (by first | exact Or.inl rfl | exact Or.inr (Or.inl rfl) | exact Or.inr (Or.inr rfl)) (by decide) (by decide))) (by rfl) (Or.inl rfl))
  dss_nil)) (fun _ => (by rfl)))
  (dss_cons (ds_ret (de_tupF (da_cons (de_var 2 (by rfl) (by first | exact Or.inl rfl | exact Or.inr (Or.inl rfl) | exact Or.inr (Or.inr rfl)) (by decide) (by decide)) (da_cons (de_var 3 (by rfl) (by first | exact Or.inl rfl | exact Or.inr (Or.inl rfl) | exact Or.inr (Or.inr rfl)) (by decide) (by decide)) da_nil (by rfl)) (by rfl)) (by decide)))
  dss_nil)))))
theorem ok_line_holds (T : Tx K mg ad fds tks ca ia ifd) (C : Ok Pg wd K mg base ad fds ca k) (CH : OkH Pg wd K mg base ad fds ca k) : FnOk Pg wd K mg base (L2N.CX Pg wd) (k + 3) (ad 7) (fds 7) ["rule", "thing"] (spD K (cl ca) 2 (run prog (k + 1) 423)) := by
  refine fn_okD (rn := run prog k) (nv := 3) (body := ir_line_holds.body) T.f_line_holds sc_line_holds rfl rfl fun cdv A outer s H E hr => ?_
  exact (dss_cons (ds_if (dw_or (dt_not (dt_val (de_isi (T := "tuple") (.inr (.inr (.inr (.inl rfl)))) (by rfl) (by rfl) T.z_isinstance (by rfl) T.z_tuple (by decide +kernel) (by decide) (by decide) (de_var 1 (by rfl) (by first | exact Or.inl rfl | exact Or.inr (Or.inl rfl) | exact Or.inr (Or.inr rfl)) (by decide) (by decide)) (by rfl) (by rfl) (by rfl)) (fun _ => (by rfl)))) (dw_or (dt_cmp (op_neD hr.units) ov_ne (de_callB call_len ov_lenQ (by rfl) T.z_len (by decide +kernel) (da_cons (de_var 1 (by rfl) (by first | exact Or.inl rfl | exact Or.inr (Or.inl rfl) | exact Or.inr (Or.inr rfl)) (by decide) (by decide)) da_nil (by rfl)) (by decide) (by decide) (by rfl) (by rfl)) de_int (nomark _)) (dw_or1 (dt_not (dt_val (de_isi (T := "list") (.inr (.inr (.inr (.inr (.inl rfl))))) (by rfl) (by rfl) T.z_isinstance (by rfl) T.z_list (by decide +kernel) (by decide) (by decide) (de_ix ix_seq ov_ix (de_var 1 (by rfl) (by first | exact Or.inl rfl | exact Or.inr (Or.inl rfl) | exact Or.inr (Or.inr rfl)) (by decide) (by decide)) de_int (fun _ _ => (by rfl))) (by rfl) (by rfl) (by rfl)) (fun _ => (by rfl))))))).t (dss_cons (ds_ret de_bl)
  dss_nil) dss_nil)
  (dss_cons (ds_asg (de_var 1 (by rfl) (by first | exact Or.inl rfl | exact Or.inr (Or.inl rfl) | exact Or.inr (Or.inr rfl)) (by decide) (by decide)) (dg_tup (by rfl) (pgs_cons (pg_name sc_line_holds.nd (by rfl) (by first | exact Or.inl rfl | exact Or.inr rfl) (by first | exact Or.inl rfl | exact Or.inr rfl)) (pgs_cons (pg_name sc_line_holds.nd (by rfl) (by first | exact Or.inl rfl | exact Or.inr rfl) (by first | exact Or.inl rfl | exact Or.inr rfl)) pgs_nil)) (by rfl) (by rfl)) (by rfl) (by rfl) (by rfl))
  (dss_cons (ds_if (dw_or (dt_not (dt_val (de_call C.c_digits_good hr (by rfl) T.g_digits_good T.f_digits_good.kp T.b_digits_good (L2N.takes_of rfl rfl rfl rfl) (da_cons (de_var 0 (by rfl) (by first | exact Or.inl rfl | exact Or.inr (Or.inl rfl) | exact Or.inr (Or.inr rfl)) (by decide) (by decide)) (da_cons (de_var 3 (by rfl) (by first | exact Or.inl rfl | exact Or.inr (Or.inl rfl) | exact Or.inr (Or.inr rfl)) (by decide) (by decide)) da_nil (by rfl)) (by rfl)) (by rfl) (by decide) (by rfl) (by rfl)) (fun _ => (by rfl)))) (dw_or1 (dt_cmp (op_neD hr.units) ov_ne (de_callB call_len ov_lenQ (by rfl) T.z_len (by decide +kernel) (da_cons (de_var 2 (by rfl) (by first | exact Or.inl rfl | exact Or.inr (Or.inl rfl) | exact Or.inr (Or.inr rfl)) (by decide) (by decide)) da_nil (by rfl)) (by decide) (by decide) (by rfl) (by rfl)) (de_bin op_addAll ov_add (de_callB call_len ov_lenQ (by rfl) T.z_len (by decide +kernel) (da_cons (de_var 3 (by rfl) (by first | exact Or.inl rfl | exact Or.inr (Or.inl rfl) | exact Or.inr (Or.inr rfl)) (by decide) (by decide)) da_nil (by rfl)) (by decide) (by decide) (by rfl) (by rfl)) de_int) (nomark _)))).t (dss_cons (ds_ret de_bl)
  dss_nil) dss_nil)
  (dss_cons (ds_if (dt_not (dt_val (de_callB (cr_all (by rfl)) ov_all (by rfl) T.z_all (by decide +kernel) (da_cons ((fe_comp (own := [("tile", 4)]) (by rfl) sc_line_holds.nd (di_any (de_var 2 (by rfl) (by first | exact Or.inl rfl | exact Or.inr (Or.inl rfl) | exact Or.inr (Or.inr rfl)) (by decide) (by decide))) (blkOk_by (N := ["rule", "thing", "tiles", "digits", "tile"]) (sc := defScope s_line_holds) (by decide +kernel)) (by decide) (fun _ _ _ _ _ => (dgt_name sc_line_holds.nd (by rfl) (by first | exact Or.inl rfl | exact Or.inr rfl) (by first | exact Or.inl rfl | exact Or.inr rfl))) (fun _ _ _ _ _ => dts_nil) (fun _ _ _ _ _ => (de_and (de_call C.c_is_tile hr (by rfl) T.g_is_tile T.f_is_tile.kp T.b_is_tile takes0N (da_cons (de_var 4 (by rfl) (by first | exact Or.inl rfl | exact Or.inr (Or.inl rfl) | exact Or.inr (Or.inr rfl)) (by decide) (by decide)) da_nil (by rfl)) (by rfl) (by decide) (by rfl) (by rfl)) (de_one (de_cmp (op_inAll (room100 hr)) ov_inQ (de_var 4 (by rfl) (by first | exact Or.inl rfl | exact Or.inr (Or.inl rfl) | exact Or.inr (Or.inr rfl)) (by decide) (by decide)) (de_call C.c_tiles_of hr (by rfl) T.g_tiles_of T.f_tiles_of.kp T.b_tiles_of takes0N (da_cons (de_var 0 (by rfl) (by first | exact Or.inl rfl | exact Or.inr (Or.inl rfl) | exact Or.inr (Or.inr rfl)) (by decide) (by decide)) da_nil (by rfl)) (by rfl) (by decide) (by rfl) (by rfl)) (by rfl))))) (fun _ => (by rfl)))).de da_nil (by rfl)) (by decide) (by decide) (by rfl) (by rfl)) (fun _ => (by rfl)))) (dss_cons (ds_ret de_bl)
  dss_nil) dss_nil)
  (dss_cons (ds_ret (de_cmp (op_eqD hr.units) ov_eq ((de_call C.c_line_by hr (by rfl) T.g_line_by T.f_line_by.kp T.b_line_by (L2N.takes_of rfl rfl rfl rfl) (da_cons (de_var 0 (by rfl) (by first | exact Or.inl rfl | exact Or.inr (Or.inl rfl) | exact Or.inr (Or.inr rfl)) (by decide) (by decide)) (da_cons (de_ix ix_seq ov_ix (de_var 2 (by rfl) (by first | exact Or.inl rfl | exact Or.inr (Or.inl rfl) | exact Or.inr (Or.inr rfl)) (by decide) (by decide)) de_int (fun _ _ => (by rfl))) (da_cons (de_var 3 (by rfl) (by first | exact Or.inl rfl | exact Or.inr (Or.inl rfl) | exact Or.inr (Or.inr rfl)) (by decide) (by decide)) da_nil (by rfl)) (by rfl)) (by rfl)) (by rfl) (by decide) (by rfl) (by rfl))).frz (de_var 2 (by rfl) (by first | exact Or.inl rfl | exact Or.inr (Or.inl rfl) | exact Or.inr (Or.inr rfl)) (by decide) (by decide)) (nomark _)))
  dss_nil)))))
theorem ok_law_cell_at (T : Tx K mg ad fds tks ca ia ifd) (C : Ok Pg wd K mg base ad fds ca k) (CH : OkH Pg wd K mg base ad fds ca k) : FnOk Pg wd K mg base (L2N.CX Pg wd) (k + 3) (ad 8) (fds 8) ["script", "k"] (spD K (cl ca) 2 (run prog (k + 1) 86)) := by
  refine fn_okD (rn := run prog k) (nv := 0) (body := ir_law_cell_at.body) T.f_law_cell_at sc_law_cell_at rfl rfl fun cdv A outer s H E hr => ?_
  exact (dss_cons (ds_if (dt_cmp op_lt ov_lt (de_var 1 (by rfl) (by first | exact Or.inl rfl | exact Or.inr (Or.inl rfl) | exact Or.inr (Or.inr rfl)) (by decide) (by decide)) (de_callB call_len ov_lenQ (by rfl) T.z_len (by decide +kernel) (da_cons (de_var 0 (by rfl) (by first | exact Or.inl rfl | exact Or.inr (Or.inl rfl) | exact Or.inr (Or.inr rfl)) (by decide) (by decide)) da_nil (by rfl)) (by decide) (by decide) (by rfl) (by rfl)) (nomark _)) (dss_cons (ds_ret (de_ix ix_seq ov_ix (de_var 0 (by rfl) (by first | exact Or.inl rfl | exact Or.inr (Or.inl rfl) | exact Or.inr (Or.inr rfl)) (by decide) (by decide)) (de_var 1 (by rfl) (by first | exact Or.inl rfl | exact Or.inr (Or.inl rfl) | exact Or.inr (Or.inr rfl)) (by decide) (by decide)) (fun _ _ => (by rfl))))
  dss_nil) dss_nil)
  (dss_cons (ds_ret de_int)
  dss_nil))
theorem ok_law_next (T : Tx K mg ad fds tks ca ia ifd) (C : Ok Pg wd K mg base ad fds ca k) (CH : OkH Pg wd K mg base ad fds ca k) : FnOk Pg wd K mg base (L2N.CX Pg wd) (k + 3) (ad 9) (fds 9) ["seed"] (spD K (cl ca) 1 (run prog (k + 1) 247)) := by
  refine fn_okD (rn := run prog k) (nv := 0) (body := ir_law_next.body) T.f_law_next sc_law_next rfl rfl fun cdv A outer s H E hr => ?_
  exact (dss_cons (ds_set sc_law_next.nd (by rfl) (by first | exact Or.inl rfl | exact Or.inr rfl) (de_bin op_mod ov_mod (de_bin op_addAll ov_add (de_var 0 (by rfl) (by first | exact Or.inl rfl | exact Or.inr (Or.inl rfl) | exact Or.inr (Or.inr rfl)) (by decide) (by decide)) de_int) de_int) (by rfl) (Or.inl rfl))
  (dss_cons (ds_ret (de_bin op_mod ov_mod (de_bin op_addAll ov_add (de_bin op_addAll ov_add (de_bin op_mulAll ov_mul (de_var 0 (by rfl) (by first | exact Or.inl rfl | exact Or.inr (Or.inl rfl) | exact Or.inr (Or.inr rfl)) (by decide) (by decide)) (de_var 0 (by rfl) (by first | exact Or.inl rfl | exact Or.inr (Or.inl rfl) | exact Or.inr (Or.inr rfl)) (by decide) (by decide))) (de_bin op_mulAll ov_mul de_int (de_var 0 (by rfl) (by first | exact Or.inl rfl | exact Or.inr (Or.inl rfl) | exact Or.inr (Or.inr rfl)) (by decide) (by decide)))) de_int) de_int))
  dss_nil))
theorem ok_law_pen_of (T : Tx K mg ad fds tks ca ia ifd) (C : Ok Pg wd K mg base ad fds ca k) (CH : OkH Pg wd K mg base ad fds ca k) : FnOk Pg wd K mg base (L2N.CX Pg wd) (k + 3) (ad 10) (fds 10) ["cell"] (spD K (cl ca) 1 (run prog (k + 1) 285)) := by
  refine fn_okD (rn := run prog k) (nv := 1) (body := ir_law_pen_of.body) T.f_law_pen_of sc_law_pen_of rfl rfl fun cdv A outer s H E hr => ?_
  exact (dss_cons (ds_set sc_law_pen_of.nd (by rfl) (by first | exact Or.inl rfl | exact Or.inr rfl) (de_callB (call_max2 (by rfl)) ov_max2 (by rfl) T.z_max (by decide +kernel) (da_cons (de_var 0 (by rfl) (by first | exact Or.inl rfl | exact Or.inr (Or.inl rfl) | exact Or.inr (Or.inr rfl)) (by decide) (by decide)) (da_cons (de_bin op_sub ov_sub de_int (de_var 0 (by rfl) (by first | exact Or.inl rfl | exact Or.inr (Or.inl rfl) | exact Or.inr (Or.inr rfl)) (by decide) (by decide))) da_nil (by rfl)) (by rfl)) (by decide) (by decide) (by rfl) (by rfl)) (by rfl) (Or.inl rfl))
  (dss_cons (ds_ret ((fe_lst (da_cons (de_var 1 (by rfl) (by first | exact Or.inl rfl | exact Or.inr (Or.inl rfl) | exact Or.inr (Or.inr rfl)) (by decide) (by decide)) (da_cons (de_callTy call_int1 ov_int (by rfl) T.z_int (by decide +kernel) (da_cons (de_cmp op_ge ov_ge (de_var 1 (by rfl) (by first | exact Or.inl rfl | exact Or.inr (Or.inl rfl) | exact Or.inr (Or.inr rfl)) (by decide) (by decide)) (de_bin op_pow ov_pow de_int de_int) (nomark _)) da_nil (by rfl)) (by decide) (by decide) (by rfl) (by rfl)) (da_cons (de_bin op_mod ov_mod (de_var 1 (by rfl) (by first | exact Or.inl rfl | exact Or.inr (Or.inl rfl) | exact Or.inr (Or.inr rfl)) (by decide) (by decide)) de_int) da_nil (by rfl)) (by rfl)) (by rfl)) (by decide))).new)
  dss_nil))
theorem ok_law_draw (T : Tx K mg ad fds tks ca ia ifd) (C : Ok Pg wd K mg base ad fds ca k) (CH : OkH Pg wd K mg base ad fds ca k) : FnOk Pg wd K mg base (L2N.CX Pg wd) (k + 3) (ad 11) (fds 11) ["pen", "many"] (spD K (cl ca) 2 (run prog (k + 1) 111)) := by
  refine fn_okD (rn := run prog k) (nv := 1) (body := ir_law_draw.body) T.f_law_draw sc_law_draw rfl rfl fun cdv A outer s H E hr => ?_
  exact (dss_cons (ds_if (dt_cmp (op_eqD hr.units) ov_eq (de_ix ix_seq ov_ix (de_var 0 (by rfl) (by first | exact Or.inl rfl | exact Or.inr (Or.inl rfl) | exact Or.inr (Or.inr rfl)) (by decide) (by decide)) de_int (fun _ _ => (by rfl))) de_int (nomark _)) (dss_cons (ds_set sc_law_draw.nd (by rfl) (by first | exact Or.inl rfl | exact Or.inr rfl) (de_bin op_mod ov_mod (de_ix ix_seq ov_ix (de_var 0 (by rfl) (by first | exact Or.inl rfl | exact Or.inr (Or.inl rfl) | exact Or.inr (Or.inr rfl)) (by decide) (by decide)) de_int (fun _ _ => (by rfl))) (de_var 1 (by rfl) (by first | exact Or.inl rfl | exact Or.inr (Or.inl rfl) | exact Or.inr (Or.inr rfl)) (by decide) (by decide))) (by rfl) (Or.inl rfl))
  (dss_cons (ds_sub set_list oset_list setM_nd (de_bin op_fdivW ov_fdiv (de_ix ix_seq ov_ix (de_var 0 (by rfl) (by first | exact Or.inl rfl | exact Or.inr (Or.inl rfl) | exact Or.inr (Or.inr rfl)) (by decide) (by decide)) de_int (fun _ _ => (by rfl))) (de_var 1 (by rfl) (by first | exact Or.inl rfl | exact Or.inr (Or.inl rfl) | exact Or.inr (Or.inr rfl)) (by decide) (by decide))) (de_var 0 (by rfl) (by first | exact Or.inl rfl | exact Or.inr (Or.inl rfl) | exact Or.inr (Or.inr rfl)) (by decide) (by decide)) de_int (fun _ => (by rfl)) (by rfl) (by rfl) (by rfl))
  (dss_cons (ds_ret (de_var 2 (by rfl) (by first | exact Or.inl rfl | exact Or.inr (Or.inl rfl) | exact Or.inr (Or.inr rfl)) (by decide) (by decide)))
  dss_nil))) dss_nil)
  (dss_cons (ds_sub set_list oset_list setM_nd (de_call C.c_law_next hr (by rfl) T.g_law_next T.f_law_next.kp T.b_law_next (L2N.takes_of rfl rfl rfl rfl) (da_cons (de_bin op_addAll ov_add (de_call C.c_law_next hr (by rfl) T.g_law_next T.f_law_next.kp T.b_law_next (L2N.takes_of rfl rfl rfl rfl) (da_cons (de_ix ix_seq ov_ix (de_var 0 (by rfl) (by first | exact Or.inl rfl | exact Or.inr (Or.inl rfl) | exact Or.inr (Or.inr rfl)) (by decide) (by decide)) de_int (fun _ _ => (by rfl))) da_nil (by rfl)) (by rfl) (by decide) (by rfl) (by rfl)) de_int) da_nil (by rfl)) (by rfl) (by decide) (by rfl) (by rfl)) (de_var 0 (by rfl) (by first | exact Or.inl rfl | exact Or.inr (Or.inl rfl) | exact Or.inr (Or.inr rfl)) (by decide) (by decide)) de_int (fun _ => (by rfl)) (by rfl) (by rfl) (by rfl))
  (dss_cons (ds_ret (de_bin op_mod ov_mod (de_bin op_fdivW ov_fdiv (de_ix ix_seq ov_ix (de_var 0 (by rfl) (by first | exact Or.inl rfl | exact Or.inr (Or.inl rfl) | exact Or.inr (Or.inr rfl)) (by decide) (by decide)) de_int (fun _ _ => (by rfl))) de_int) (de_var 1 (by rfl) (by first | exact Or.inl rfl | exact Or.inr (Or.inl rfl) | exact Or.inr (Or.inr rfl)) (by decide) (by decide))))
  dss_nil)))
theorem ok_law_whole (T : Tx K mg ad fds tks ca ia ifd) (C : Ok Pg wd K mg base ad fds ca k) (CH : OkH Pg wd K mg base ad fds ca k) : FnOk Pg wd K mg base (L2N.CX Pg wd) (k + 3) (ad 12) (fds 12) ["found"] (spD K (cl ca) 1 (run prog (k + 1) 413)) := by
  refine fn_okD (rn := run prog k) (nv := 0) (body := ir_law_whole.body) T.f_law_whole sc_law_whole rfl rfl fun cdv A outer s H E hr => ?_
  exact (dss_cons (ds_ret (de_and (de_isi (T := "int") (.inr (.inl rfl)) (by rfl) (by rfl) T.z_isinstance (by rfl) T.z_int (by decide +kernel) (by decide) (by decide) (de_var 0 (by rfl) (by first | exact Or.inl rfl | exact Or.inr (Or.inl rfl) | exact Or.inr (Or.inr rfl)) (by decide) (by decide)) (by rfl) (by rfl) (by rfl)) (de_one (de_not (de_isi (T := "bool") (.inl rfl) (by rfl) (by rfl) T.z_isinstance (by rfl) T.z_bool (by decide +kernel) (by decide) (by decide) (de_var 0 (by rfl) (by first | exact Or.inl rfl | exact Or.inr (Or.inl rfl) | exact Or.inr (Or.inr rfl)) (by decide) (by decide)) (by rfl) (by rfl) (by rfl))))))
  dss_nil)
theorem ok_law_rule_by_k09 (T : Tx K mg ad fds tks ca ia ifd) (C : Ok Pg wd K mg base ad fds ca k) (CH : OkH Pg wd K mg base ad fds ca k) : FnOk Pg wd K mg base (L2N.CX Pg wd) (k + 3) (ad 14) (fds 14) ["pen", "most"] (spD K (cl ca) 2 (run prog (k + 1) 343)) := by
  refine fn_okD (rn := run prog k) (nv := 13) (body := ir_law_rule_by_k09.body) T.f_law_rule_by_k09 sc_law_rule_by_k09 rfl rfl fun cdv A outer s H E hr => ?_
  exact (dss_cons (ds_set sc_law_rule_by_k09.nd (by rfl) (by first | exact Or.inl rfl | exact Or.inr rfl) (de_str (by decide +kernel) (okS_of (by decide +kernel))) (by rfl) (Or.inl rfl))
  (dss_cons (ds_asg (de_ix ix_seq ov_ix ((fe_lst (da_cons (de_tupF (da_cons de_int (da_cons de_int da_nil (by rfl)) (by rfl)) (by decide)) (da_cons (de_tupF (da_cons de_int (da_cons de_int da_nil (by rfl)) (by rfl)) (by decide)) (da_cons (de_tupF (da_cons de_int (da_cons de_int da_nil (by rfl)) (by rfl)) (by decide)) (da_cons (de_tupF (da_cons de_int (da_cons de_int da_nil (by rfl)) (by rfl)) (by decide)) (da_cons (de_tupF (da_cons de_int (da_cons de_int da_nil (by rfl)) (by rfl)) (by decide)) (da_cons (de_tupF (da_cons de_int (da_cons de_int da_nil (by rfl)) (by rfl)) (by decide)) (da_cons (de_tupF (da_cons de_int (da_cons de_int da_nil (by rfl)) (by rfl)) (by decide)) (da_cons (de_tupF (da_cons de_int (da_cons de_int da_nil (by rfl)) (by rfl)) (by decide)) (da_cons (de_tupF (da_cons de_int (da_cons de_int da_nil (by rfl)) (by rfl)) (by decide)) (da_cons (de_tupF (da_cons de_int (da_cons de_int da_nil (by rfl)) (by rfl)) (by decide)) da_nil (by rfl)) (by rfl)) (by rfl)) (by rfl)) (by rfl)) (by rfl)) (by rfl)) (by rfl)) (by rfl)) (by rfl)) (by decide))).de (de_call C.c_law_draw hr (by rfl) T.g_law_draw T.f_law_draw.kp T.b_law_draw (L2N.takes_of rfl rfl rfl rfl) (da_cons (de_var 0 (by rfl) (by first | exact Or.inl rfl | exact Or.inr (Or.inl rfl) | exact Or.inr (Or.inr rfl)) (by decide) (by decide)) (da_cons de_int da_nil (by rfl)) (by rfl)) (by rfl) (by decide) (by rfl) (by rfl)) (fun _ _ => (by rfl))) (dg_tup (by rfl) (pgs_cons (pg_name sc_law_rule_by_k09.nd (by rfl) (by first | exact Or.inl rfl | exact Or.inr rfl) (by first | exact Or.inl rfl | exact Or.inr rfl)) (pgs_cons (pg_name sc_law_rule_by_k09.nd (by rfl) (by first | exact Or.inl rfl | exact Or.inr rfl) (by first | exact Or.inl rfl | exact Or.inr rfl)) pgs_nil)) (by rfl) (by rfl)) (by rfl) (by rfl) (by rfl))
  (dss_cons (ds_set sc_law_rule_by_k09.nd (by rfl) (by first | exact Or.inl rfl | exact Or.inr rfl) (de_call C.c_law_draw hr (by rfl) T.g_law_draw T.f_law_draw.kp T.b_law_draw (L2N.takes_of rfl rfl rfl rfl) (da_cons (de_var 0 (by rfl) (by first | exact Or.inl rfl | exact Or.inr (Or.inl rfl) | exact Or.inr (Or.inr rfl)) (by decide) (by decide)) (da_cons (de_bin op_sub ov_sub de_int (de_var 1 (by rfl) (by first | exact Or.inl rfl | exact Or.inr (Or.inl rfl) | exact Or.inr (Or.inr rfl)) (by decide) (by decide))) da_nil (by rfl)) (by rfl)) (by rfl) (by decide) (by rfl) (by rfl)) (by rfl) (Or.inl rfl))
  (dss_cons (ds_set sc_law_rule_by_k09.nd (by rfl) (by first | exact Or.inl rfl | exact Or.inr rfl) (de_slice sl_all os_slice (de_var 2 (by rfl) (by first | exact Or.inl rfl | exact Or.inr (Or.inl rfl) | exact Or.inr (Or.inr rfl)) (by decide) (by decide)) (do_some (de_var 5 (by rfl) (by first | exact Or.inl rfl | exact Or.inr (Or.inl rfl) | exact Or.inr (Or.inr rfl)) (by decide) (by decide))) (do_some (de_bin op_addAll ov_add (de_bin op_addAll ov_add (de_var 5 (by rfl) (by first | exact Or.inl rfl | exact Or.inr (Or.inl rfl) | exact Or.inr (Or.inr rfl)) (by decide) (by decide)) de_int) (de_call C.c_law_draw hr (by rfl) T.g_law_draw T.f_law_draw.kp T.b_law_draw (L2N.takes_of rfl rfl rfl rfl) (da_cons (de_var 0 (by rfl) (by first | exact Or.inl rfl | exact Or.inr (Or.inl rfl) | exact Or.inr (Or.inr rfl)) (by decide) (by decide)) (da_cons (de_var 1 (by rfl) (by first | exact Or.inl rfl | exact Or.inr (Or.inl rfl) | exact Or.inr (Or.inr rfl)) (by decide) (by decide)) da_nil (by rfl)) (by rfl)) (by rfl) (by decide) (by rfl) (by rfl))))) (by rfl) (Or.inl rfl))
  (dss_cons (ds_set sc_law_rule_by_k09.nd (by rfl) (by first | exact Or.inl rfl | exact Or.inr rfl) (de_bin op_addAll ov_add de_int (de_call C.c_law_draw hr (by rfl) T.g_law_draw T.f_law_draw.kp T.b_law_draw (L2N.takes_of rfl rfl rfl rfl) (da_cons (de_var 0 (by rfl) (by first | exact Or.inl rfl | exact Or.inr (Or.inl rfl) | exact Or.inr (Or.inr rfl)) (by decide) (by decide)) (da_cons de_int da_nil (by rfl)) (by rfl)) (by rfl) (by decide) (by rfl) (by rfl))) (by rfl) (Or.inl rfl))
  (dss_cons (ds_set sc_law_rule_by_k09.nd (by rfl) (by first | exact Or.inl rfl | exact Or.inr rfl) ((fe_lst da_nil (by decide))).new (by rfl) (Or.inl rfl))
  (dss_cons (ds_for (passes_of rfl) (by rfl) (di_any (de_var 6 (by rfl) (by first | exact Or.inl rfl | exact Or.inr (Or.inl rfl) | exact Or.inr (Or.inr rfl)) (by decide) (by decide))) (dg_name sc_law_rule_by_k09.nd (by rfl) (by first | exact Or.inl rfl | exact Or.inr rfl) (by first | exact Or.inl rfl | exact Or.inr rfl)) (dss_cons (ds_set sc_law_rule_by_k09.nd (by rfl) (by first | exact Or.inl rfl | exact Or.inr rfl) ((fe_lst da_nil (by decide))).new (by rfl) (Or.inl rfl))
  (dss_cons (ds_for (passes_of rfl) (by rfl) (di_range1 (by rfl) T.z_range (da_cons (de_var 3 (by rfl) (by first | exact Or.inl rfl | exact Or.inr (Or.inl rfl) | exact Or.inr (Or.inr rfl)) (by decide) (by decide)) da_nil (by rfl)) (by rfl)) (dg_name sc_law_rule_by_k09.nd (by rfl) (by first | exact Or.inl rfl | exact Or.inr rfl) (by first | exact Or.inl rfl | exact Or.inr rfl)) (dss_cons (ds_setLc (own := [("column", 14)]) (by rfl) sc_law_rule_by_k09.nd (by rfl) (by rfl) (sw_true (by rfl) (by rfl) (by rfl) (by decide +kernel)) (di_range1 (by rfl) T.z_range (da_cons (de_var 4 (by rfl) (by first | exact Or.inl rfl | exact Or.inr (Or.inl rfl) | exact Or.inr (Or.inr rfl)) (by decide) (by decide)) da_nil (by rfl)) (by rfl)) (blkOk_by (N := ["pen", "most", "letters", "high", "wide", "start", "tiles", "alike", "blocks", "tile", "rows", "row", "signs", "block", "column"]) (sc := defScope s_law_rule_by_k09) (by decide +kernel)) (by decide) (fun _ _ _ _ _ => (dgt_name sc_law_rule_by_k09.nd (by rfl) (by first | exact Or.inl rfl | exact Or.inr rfl) (by first | exact Or.inl rfl | exact Or.inr rfl))) (fun _ _ _ _ _ => dts_nil) (fun _ _ _ _ _ => (de_ix ix_seq ov_ix (de_var 6 (by rfl) (by first | exact Or.inl rfl | exact Or.inr (Or.inl rfl) | exact Or.inr (Or.inr rfl)) (by decide) (by decide)) (de_bin op_fdivW ov_fdiv (de_call C.c_law_draw hr (by rfl) T.g_law_draw T.f_law_draw.kp T.b_law_draw takes0N (da_cons (de_var 0 (by rfl) (by first | exact Or.inl rfl | exact Or.inr (Or.inl rfl) | exact Or.inr (Or.inr rfl)) (by decide) (by decide)) (da_cons (de_callB call_len ov_lenQ (by rfl) T.z_len (by decide +kernel) (da_cons (de_var 6 (by rfl) (by first | exact Or.inl rfl | exact Or.inr (Or.inl rfl) | exact Or.inr (Or.inr rfl)) (by decide) (by decide)) da_nil (by rfl)) (by decide) (by decide) (by rfl) (by rfl)) da_nil (by rfl)) (by rfl)) (by rfl) (by decide) (by rfl) (by rfl)) (de_var 7 (by rfl) (by first | exact Or.inl rfl | exact Or.inr (Or.inl rfl) | exact Or.inr (Or.inr rfl)) (by decide) (by decide))) (fun _ _ => (by rfl)))) (fun _ => (by rfl)))
  (dss_cons (ds_expr (de_mut (by decide) PySem.F.plainAttrs_list PySem.F.slot_list_append PySem.F.type_list_append mt_appendR om_append appendM_ty (de_var 10 (by rfl) (by first | exact Or.inl rfl | exact Or.inr (Or.inl rfl) | exact Or.inr (Or.inr rfl)) (by decide) (by decide)) (da_cons (de_meth (by decide) PySem.F.plainAttrs_str PySem.F.slot_str_join PySem.F.type_str_join mt_join ov_join (de_str (by decide +kernel) (okS_of (by decide +kernel))) (da_cons (de_var 12 (by rfl) (by first | exact Or.inl rfl | exact Or.inr (Or.inl rfl) | exact Or.inr (Or.inr rfl)) (by decide) (by decide)) da_nil (by rfl)) (by rfl) (by rfl) (by rfl) (by rfl) (by rfl)) da_nil (by rfl)) (by rfl) (by rfl) (by rfl) (by rfl) (by rfl)) (by rfl))
  dss_nil)) (fun _ => (by rfl)))
  (dss_cons (ds_expr (de_mut (by decide) PySem.F.plainAttrs_list PySem.F.slot_list_append PySem.F.type_list_append mt_appendR om_append appendM_ty (de_var 8 (by rfl) (by first | exact Or.inl rfl | exact Or.inr (Or.inl rfl) | exact Or.inr (Or.inr rfl)) (by decide) (by decide)) (da_cons (de_tupF (da_cons (de_var 9 (by rfl) (by first | exact Or.inl rfl | exact Or.inr (Or.inl rfl) | exact Or.inr (Or.inr rfl)) (by decide) (by decide)) (da_cons (de_callTy call_tupleQ ov_tuple (by rfl) T.z_tuple (by decide +kernel) (da_cons (de_var 10 (by rfl) (by first | exact Or.inl rfl | exact Or.inr (Or.inl rfl) | exact Or.inr (Or.inr rfl)) (by decide) (by decide)) da_nil (by rfl)) (by decide) (by decide) (by rfl) (by rfl)) da_nil (by rfl)) (by rfl)) (by decide)) da_nil (by rfl)) (by rfl) (by rfl) (by rfl) (by rfl) (by rfl)) (by rfl))
  dss_nil))) (fun _ => (by rfl)))
  (dss_cons (ds_if (dt_cmp (op_eqD hr.units) ov_eq (de_call C.c_law_draw hr (by rfl) T.g_law_draw T.f_law_draw.kp T.b_law_draw (L2N.takes_of rfl rfl rfl rfl) (da_cons (de_var 0 (by rfl) (by first | exact Or.inl rfl | exact Or.inr (Or.inl rfl) | exact Or.inr (Or.inr rfl)) (by decide) (by decide)) (da_cons de_int da_nil (by rfl)) (by rfl)) (by rfl) (by decide) (by rfl) (by rfl)) de_int (nomark _)) (dss_cons (ds_asg (de_ix ix_seq ov_ix (de_var 8 (by rfl) (by first | exact Or.inl rfl | exact Or.inr (Or.inl rfl) | exact Or.inr (Or.inr rfl)) (by decide) (by decide)) de_int (fun _ _ => (by rfl))) (dg_tup (by rfl) (pgs_cons (pg_name sc_law_rule_by_k09.nd (by rfl) (by first | exact Or.inl rfl | exact Or.inr rfl) (by first | exact Or.inl rfl | exact Or.inr rfl)) (pgs_cons (pg_name sc_law_rule_by_k09.nd (by rfl) (by first | exact Or.inl rfl | exact Or.inr rfl) (by first | exact Or.inl rfl | exact Or.inr rfl)) pgs_nil)) (by rfl) (by rfl)) (by rfl) (by rfl) (by rfl))
  (dss_cons (ds_sub set_list oset_list setM_nd (de_tupF (da_cons (de_var 9 (by rfl) (by first | exact Or.inl rfl | exact Or.inr (Or.inl rfl) | exact Or.inr (Or.inr rfl)) (by decide) (by decide)) (da_cons (de_bin op_addAll ov_add (de_tupF (da_cons (de_bin op_addAll ov_add (de_var 9 (by rfl) (by first | exact Or.inl rfl | exact Or.inr (Or.inl rfl) | exact Or.inr (Or.inr rfl)) (by decide) (by decide)) (de_slice sl_all os_slice (de_ix ix_seq ov_ix (de_var 13 (by rfl) (by first | exact Or.inl rfl | exact Or.inr (Or.inl rfl) | exact Or.inr (Or.inr rfl)) (by decide) (by decide)) de_int (fun _ _ => (by rfl))) (do_some de_int) do_none)) da_nil (by rfl)) (by decide)) (de_slice sl_all os_slice (de_var 13 (by rfl) (by first | exact Or.inl rfl | exact Or.inr (Or.inl rfl) | exact Or.inr (Or.inr rfl)) (by decide) (by decide)) (do_some de_int) do_none)) da_nil (by rfl)) (by rfl)) (by decide)) (de_var 8 (by rfl) (by first | exact Or.inl rfl | exact Or.inr (Or.inl rfl) | exact Or.inr (Or.inr rfl)) (by decide) (by decide)) de_int (fun _ => (by rfl)) (by rfl) (by rfl) (by rfl))
  dss_nil)) dss_nil)
  (dss_cons (ds_ret (de_tupF (da_cons (de_var 3 (by rfl) (by first | exact Or.inl rfl | exact Or.inr (Or.inl rfl) | exact Or.inr (Or.inr rfl)) (by decide) (by decide)) (da_cons (de_var 4 (by rfl) (by first | exact Or.inl rfl | exact Or.inr (Or.inl rfl) | exact Or.inr (Or.inr rfl)) (by decide) (by decide)) (da_cons (de_callTy call_tupleQ ov_tuple (by rfl) T.z_tuple (by decide +kernel) (da_cons (de_var 8 (by rfl) (by first | exact Or.inl rfl | exact Or.inr (Or.inl rfl) | exact Or.inr (Or.inr rfl)) (by decide) (by decide)) da_nil (by rfl)) (by decide) (by decide) (by rfl) (by rfl)) da_nil (by rfl)) (by rfl)) (by rfl)) (by decide)))
  dss_nil)))))))))
theorem ok_law_tiles_of (T : Tx K mg ad fds tks ca ia ifd) (C : Ok Pg wd K mg base ad fds ca k) (CH : OkH Pg wd K mg base ad fds ca k) : FnOk Pg wd K mg base (L2N.CX Pg wd) (k + 3) (ad 15) (fds 15) ["rule"] (spD K (cl ca) 1 (run prog (k + 1) 388)) := by
  refine fn_okD (rn := run prog k) (nv := 2) (body := ir_law_tiles_of.body) T.f_law_tiles_of sc_law_tiles_of rfl rfl fun cdv A outer s H E hr => ?_
  exact (dss_cons (ds_ret ((fe_comp (own := [("tile", 1), ("block", 2)]) (by rfl) sc_law_tiles_of.nd (di_any (de_ix ix_seq ov_ix (de_var 0 (by rfl) (by first | exact Or.inl rfl | exact Or.inr (Or.inl rfl) | exact Or.inr (Or.inr rfl)) (by decide) (by decide)) de_int (fun _ _ => (by rfl)))) (blkOk_by (N := ["rule", "tile", "block"]) (sc := defScope s_law_tiles_of) (by decide +kernel)) (by decide) (fun _ _ _ _ _ => (dgt_tup (by rfl) (pgs_cons (pg_name sc_law_tiles_of.nd (by rfl) (by first | exact Or.inl rfl | exact Or.inr rfl) (by first | exact Or.inl rfl | exact Or.inr rfl)) (pgs_cons (pg_name sc_law_tiles_of.nd (by rfl) (by first | exact Or.inl rfl | exact Or.inr rfl) (by first | exact Or.inl rfl | exact Or.inr rfl)) pgs_nil)) (by rfl) (by rfl))) (fun _ _ _ _ _ => dts_nil) (fun _ _ _ _ _ => (de_var 1 (by rfl) (by first | exact Or.inl rfl | exact Or.inr (Or.inl rfl) | exact Or.inr (Or.inr rfl)) (by decide) (by decide))) (fun _ => (by rfl)))).de)
  dss_nil)
theorem ok_law_digits_good (T : Tx K mg ad fds tks ca ia ifd) (C : Ok Pg wd K mg base ad fds ca k) (CH : OkH Pg wd K mg base ad fds ca k) : FnOk Pg wd K mg base (L2N.CX Pg wd) (k + 3) (ad 16) (fds 16) ["rule", "thing"] (spD K (cl ca) 2 (run prog (k + 1) 108)) := by
  refine fn_okD (rn := run prog k) (nv := 2) (body := ir_law_digits_good.body) T.f_law_digits_good sc_law_digits_good rfl rfl fun cdv A outer s H E hr => ?_
  exact (dss_cons (ds_if (dt_not (dt_val (de_isi (T := "list") (.inr (.inr (.inr (.inr (.inl rfl))))) (by rfl) (by rfl) T.z_isinstance (by rfl) T.z_list (by decide +kernel) (by decide) (by decide) (de_var 1 (by rfl) (by first | exact Or.inl rfl | exact Or.inr (Or.inl rfl) | exact Or.inr (Or.inr rfl)) (by decide) (by decide)) (by rfl) (by rfl) (by rfl)) (fun _ => (by rfl)))) (dss_cons (ds_ret de_bl)
  dss_nil) dss_nil)
  (dss_cons (ds_for (passes_of rfl) (by rfl) (di_any (de_var 1 (by rfl) (by first | exact Or.inl rfl | exact Or.inr (Or.inl rfl) | exact Or.inr (Or.inr rfl)) (by decide) (by decide))) (dg_name sc_law_digits_good.nd (by rfl) (by first | exact Or.inl rfl | exact Or.inr rfl) (by first | exact Or.inl rfl | exact Or.inr rfl)) (dss_cons (ds_if (dw_or (dt_not (dt_val (de_isi (T := "tuple") (.inr (.inr (.inr (.inl rfl)))) (by rfl) (by rfl) T.z_isinstance (by rfl) T.z_tuple (by decide +kernel) (by decide) (by decide) (de_var 2 (by rfl) (by first | exact Or.inl rfl | exact Or.inr (Or.inl rfl) | exact Or.inr (Or.inr rfl)) (by decide) (by decide)) (by rfl) (by rfl) (by rfl)) (fun _ => (by rfl)))) (dw_or (dt_cmp (op_neD hr.units) ov_ne (de_callB call_len ov_lenQ (by rfl) T.z_len (by decide +kernel) (da_cons (de_var 2 (by rfl) (by first | exact Or.inl rfl | exact Or.inr (Or.inl rfl) | exact Or.inr (Or.inr rfl)) (by decide) (by decide)) da_nil (by rfl)) (by decide) (by decide) (by rfl) (by rfl)) de_int (nomark _)) (dw_or1 (dt_not (dt_val (de_callB (cr_all (by rfl)) ov_all (by rfl) T.z_all (by decide +kernel) (da_cons ((fe_comp (own := [("one", 3)]) (by rfl) sc_law_digits_good.nd (di_any (de_var 2 (by rfl) (by first | exact Or.inl rfl | exact Or.inr (Or.inl rfl) | exact Or.inr (Or.inr rfl)) (by decide) (by decide))) (blkOk_by (N := ["rule", "thing", "pair", "one"]) (sc := defScope s_law_digits_good) (by decide +kernel)) (by decide) (fun _ _ _ _ _ => (dgt_name sc_law_digits_good.nd (by rfl) (by first | exact Or.inl rfl | exact Or.inr rfl) (by first | exact Or.inl rfl | exact Or.inr rfl))) (fun _ _ _ _ _ => dts_nil) (fun _ _ _ _ _ => (de_call C.c_law_whole hr (by rfl) T.g_law_whole T.f_law_whole.kp T.b_law_whole takes0N (da_cons (de_var 3 (by rfl) (by first | exact Or.inl rfl | exact Or.inr (Or.inl rfl) | exact Or.inr (Or.inr rfl)) (by decide) (by decide)) da_nil (by rfl)) (by rfl) (by decide) (by rfl) (by rfl))) (fun _ => (by rfl)))).de da_nil (by rfl)) (by decide) (by decide) (by rfl) (by rfl)) (fun _ => (by rfl))))))).t (dss_cons (ds_ret de_bl)
  dss_nil) dss_nil)
  (dss_cons (ds_if (dw_or (dt_not (dt_chain op_le op_lt ov_le ov_lt de_int (de_ix ix_seq ov_ix (de_var 2 (by rfl) (by first | exact Or.inl rfl | exact Or.inr (Or.inl rfl) | exact Or.inr (Or.inr rfl)) (by decide) (by decide)) de_int (fun _ _ => (by rfl))) (de_ix ix_seq ov_ix (de_var 0 (by rfl) (by first | exact Or.inl rfl | exact Or.inr (Or.inl rfl) | exact Or.inr (Or.inr rfl)) (by decide) (by decide)) de_int (fun _ _ => (by rfl))) (by first | rfl | with_unfolding_all rfl))) (dw_or1 (dt_not (dt_chain op_le op_lt ov_le ov_lt de_int (de_ix ix_seq ov_ix (de_var 2 (by rfl) (by first | exact Or.inl rfl | exact Or.inr (Or.inl rfl) | exact Or.inr (Or.inr rfl)) (by decide) (by decide)) de_int (fun _ _ => (by rfl))) (de_ix ix_seq ov_ix (de_var 0 (by rfl) (by first | exact Or.inl rfl | exact Or.inr (Or.inl rfl) | exact Or.inr (Or.inr rfl)) (by decide) (by decide)) de_int (fun _ _ => (by rfl))) (by first | rfl | with_unfolding_all rfl))))).t (dss_cons (ds_ret de_bl)
  dss_nil) dss_nil)
  dss_nil)) (fun _ => (by rfl)))
  (dss_cons (ds_ret de_bl)
  dss_nil)))
theorem ok_law_due_of_k13 (T : Tx K mg ad fds tks ca ia ifd) (C : Ok Pg wd K mg base ad fds ca k) (CH : OkH Pg wd K mg base ad fds ca k) : FnOk Pg wd K mg base (L2N.CX Pg wd) (k + 3) (ad 17) (fds 17) ["rule", "thing"] (spD K (cl ca) 2 (run prog (k + 1) 122)) := by
  refine fn_okD (rn := run prog k) (nv := 4) (body := ir_law_due_of_k13.body) T.f_law_due_of_k13 sc_law_due_of_k13 rfl rfl fun cdv A outer s H E hr => ?_
  exact (dss_cons (ds_if (dw_or (dt_not (dt_val (de_isi (T := "tuple") (.inr (.inr (.inr (.inl rfl)))) (by rfl) (by rfl) T.z_isinstance (by rfl) T.z_tuple (by decide +kernel) (by decide) (by decide) (de_var 1 (by rfl) (by first | exact Or.inl rfl | exact Or.inr (Or.inl rfl) | exact Or.inr (Or.inr rfl)) (by decide) (by decide)) (by rfl) (by rfl) (by rfl)) (fun _ => (by rfl)))) (dw_or (dt_cmp (op_neD hr.units) ov_ne (de_callB call_len ov_lenQ (by rfl) T.z_len (by decide +kernel) (da_cons (de_var 1 (by rfl) (by first | exact Or.inl rfl | exact Or.inr (Or.inl rfl) | exact Or.inr (Or.inr rfl)) (by decide) (by decide)) da_nil (by rfl)) (by decide) (by decide) (by rfl) (by rfl)) de_int (nomark _)) (dw_or1 (dt_not (dt_val (de_isi (T := "list") (.inr (.inr (.inr (.inr (.inl rfl))))) (by rfl) (by rfl) T.z_isinstance (by rfl) T.z_list (by decide +kernel) (by decide) (by decide) (de_ix ix_seq ov_ix (de_var 1 (by rfl) (by first | exact Or.inl rfl | exact Or.inr (Or.inl rfl) | exact Or.inr (Or.inr rfl)) (by decide) (by decide)) de_int (fun _ _ => (by rfl))) (by rfl) (by rfl) (by rfl)) (fun _ => (by rfl))))))).t (dss_cons (ds_ret de_bl)
  dss_nil) dss_nil)
  (dss_cons (ds_if (dw_or (dt_not (dt_val (de_call C.c_law_digits_good hr (by rfl) T.g_law_digits_good T.f_law_digits_good.kp T.b_law_digits_good (L2N.takes_of rfl rfl rfl rfl) (da_cons (de_var 0 (by rfl) (by first | exact Or.inl rfl | exact Or.inr (Or.inl rfl) | exact Or.inr (Or.inr rfl)) (by decide) (by decide)) (da_cons (de_ix ix_seq ov_ix (de_var 1 (by rfl) (by first | exact Or.inl rfl | exact Or.inr (Or.inl rfl) | exact Or.inr (Or.inr rfl)) (by decide) (by decide)) de_int (fun _ _ => (by rfl))) da_nil (by rfl)) (by rfl)) (by rfl) (by decide) (by rfl) (by rfl)) (fun _ => (by rfl)))) (dw_or1 (dt_cmp (op_neD hr.units) ov_ne (de_callB call_len ov_lenQ (by rfl) T.z_len (by decide +kernel) (da_cons (de_ix ix_seq ov_ix (de_var 1 (by rfl) (by first | exact Or.inl rfl | exact Or.inr (Or.inl rfl) | exact Or.inr (Or.inr rfl)) (by decide) (by decide)) de_int (fun _ _ => (by rfl))) da_nil (by rfl)) (by decide) (by decide) (by rfl) (by rfl)) (de_bin op_addAll ov_add (de_callB call_len ov_lenQ (by rfl) T.z_len (by decide +kernel) (da_cons (de_ix ix_seq ov_ix (de_var 1 (by rfl) (by first | exact Or.inl rfl | exact Or.inr (Or.inl rfl) | exact Or.inr (Or.inr rfl)) (by decide) (by decide)) de_int (fun _ _ => (by rfl))) da_nil (by rfl)) (by decide) (by decide) (by rfl) (by rfl)) de_int) (nomark _)))).t (dss_cons (ds_ret de_bl)
  dss_nil) dss_nil)
  (dss_cons (ds_set sc_law_due_of_k13.nd (by rfl) (by first | exact Or.inl rfl | exact Or.inr rfl) ((fe_callTy (call_dictQ (by rfl)) of_dict dictP_dic (by rfl) T.z_dict (by decide +kernel) (da_cons (de_ix ix_seq ov_ix (de_var 0 (by rfl) (by first | exact Or.inl rfl | exact Or.inr (Or.inl rfl) | exact Or.inr (Or.inr rfl)) (by decide) (by decide)) de_int (fun _ _ => (by rfl))) da_nil (by rfl)) (by decide) (by decide) (by rfl) (by rfl))).de (by rfl) (Or.inl rfl))
  (dss_cons (ds_if (dt_not (dt_val (de_callB (cr_all (by rfl)) ov_all (by rfl) T.z_all (by decide +kernel) (da_cons ((fe_comp (own := [("tile", 5)]) (by rfl) sc_law_due_of_k13.nd (di_any (de_ix ix_seq ov_ix (de_var 1 (by rfl) (by first | exact Or.inl rfl | exact Or.inr (Or.inl rfl) | exact Or.inr (Or.inr rfl)) (by decide) (by decide)) de_int (fun _ _ => (by rfl)))) (blkOk_by (N := ["rule", "thing", "blocks", "k", "pair", "tile"]) (sc := defScope s_law_due_of_k13) (by decide +kernel)) (by decide) (fun _ _ _ _ _ => (dgt_name sc_law_due_of_k13.nd (by rfl) (by first | exact Or.inl rfl | exact Or.inr rfl) (by first | exact Or.inl rfl | exact Or.inr rfl))) (fun _ _ _ _ _ => dts_nil) (fun _ _ _ _ _ => (de_and (de_isi (T := "str") (.inr (.inr (.inl rfl))) (by rfl) (by rfl) T.z_isinstance (by rfl) T.z_str (by decide +kernel) (by decide) (by decide) (de_var 5 (by rfl) (by first | exact Or.inl rfl | exact Or.inr (Or.inl rfl) | exact Or.inr (Or.inr rfl)) (by decide) (by decide)) (by rfl) (by rfl) (by rfl)) (de_one (de_cmp (op_inAll (room100 hr)) ov_inQ (de_var 5 (by rfl) (by first | exact Or.inl rfl | exact Or.inr (Or.inl rfl) | exact Or.inr (Or.inr rfl)) (by decide) (by decide)) (de_var 2 (by rfl) (by first | exact Or.inl rfl | exact Or.inr (Or.inl rfl) | exact Or.inr (Or.inr rfl)) (by decide) (by decide)) (by rfl))))) (fun _ => (by rfl)))).de da_nil (by rfl)) (by decide) (by decide) (by rfl) (by rfl)) (fun _ => (by rfl)))) (dss_cons (ds_ret de_bl)
  dss_nil) dss_nil)
  (dss_cons (ds_for (passes_of rfl) (by rfl) (di_enum (by rfl) T.z_enumerate (da_cons (de_ix ix_seq ov_ix (de_var 1 (by rfl) (by first | exact Or.inl rfl | exact Or.inr (Or.inl rfl) | exact Or.inr (Or.inr rfl)) (by decide) (by decide)) de_int (fun _ _ => (by rfl))) da_nil (by rfl)) (by rfl)) (dg_tup (by rfl) (pgs_cons (pg_name sc_law_due_of_k13.nd (by rfl) (by first | exact Or.inl rfl | exact Or.inr rfl) (by first | exact Or.inl rfl | exact Or.inr rfl)) (pgs_cons (pg_name sc_law_due_of_k13.nd (by rfl) (by first | exact Or.inl rfl | exact Or.inr rfl) (by first | exact Or.inl rfl | exact Or.inr rfl)) pgs_nil)) (by rfl) (by rfl)) (dss_cons (ds_if (dt_cmp (op_neD hr.units) ov_ne (de_ix ix_seq ov_ix (de_ix ix_seq ov_ix (de_ix (ix_all (room100 hr)) ov_ixQ (de_var 2 (by rfl) (by first | exact Or.inl rfl | exact Or.inr (Or.inl rfl) | exact Or.inr (Or.inr rfl)) (by decide) (by decide)) (de_ix ix_seq ov_ix (de_ix ix_seq ov_ix (de_var 1 (by rfl) (by first | exact Or.inl rfl | exact Or.inr (Or.inl rfl) | exact Or.inr (Or.inr rfl)) (by decide) (by decide)) de_int (fun _ _ => (by rfl))) (de_var 3 (by rfl) (by first | exact Or.inl rfl | exact Or.inr (Or.inl rfl) | exact Or.inr (Or.inr rfl)) (by decide) (by decide)) (fun _ _ => (by rfl))) (fun _ _ => (by rfl))) (de_ix ix_seq ov_ix (de_var 4 (by rfl) (by first | exact Or.inl rfl | exact Or.inr (Or.inl rfl) | exact Or.inr (Or.inr rfl)) (by decide) (by decide)) de_int (fun _ _ => (by rfl))) (fun _ _ => (by rfl))) (de_ix ix_seq ov_ix (de_var 4 (by rfl) (by first | exact Or.inl rfl | exact Or.inr (Or.inl rfl) | exact Or.inr (Or.inr rfl)) (by decide) (by decide)) de_int (fun _ _ => (by rfl))) (fun _ _ => (by rfl))) (de_ix ix_seq ov_ix (de_ix ix_seq ov_ix (de_var 1 (by rfl) (by first | exact Or.inl rfl | exact Or.inr (Or.inl rfl) | exact Or.inr (Or.inr rfl)) (by decide) (by decide)) de_int (fun _ _ => (by rfl))) (de_bin op_addAll ov_add (de_var 3 (by rfl) (by first | exact Or.inl rfl | exact Or.inr (Or.inl rfl) | exact Or.inr (Or.inr rfl)) (by decide) (by decide)) de_int) (fun _ _ => (by rfl))) (nomark _)) (dss_cons (ds_ret de_bl)
  dss_nil) dss_nil)
  dss_nil) (fun _ => (by rfl)))
  (dss_cons (ds_ret de_bl)
  dss_nil))))))
theorem ok_law_line_of (T : Tx K mg ad fds tks ca ia ifd) (C : Ok Pg wd K mg base ad fds ca k) (CH : OkH Pg wd K mg base ad fds ca k) : FnOk Pg wd K mg base (L2N.CX Pg wd) (k + 3) (ad 18) (fds 18) ["pen", "rule"] (spD K (cl ca) 2 (run prog (k + 1) 239)) := by
  refine fn_okD (rn := run prog k) (nv := 4) (body := ir_law_line_of.body) T.f_law_line_of sc_law_line_of rfl rfl fun cdv A outer s H E hr => ?_
  exact (dss_cons (ds_set sc_law_line_of.nd (by rfl) (by first | exact Or.inl rfl | exact Or.inr rfl) ((fe_callTy (call_dictQ (by rfl)) of_dict dictP_dic (by rfl) T.z_dict (by decide +kernel) (da_cons (de_ix ix_seq ov_ix (de_var 1 (by rfl) (by first | exact Or.inl rfl | exact Or.inr (Or.inl rfl) | exact Or.inr (Or.inr rfl)) (by decide) (by decide)) de_int (fun _ _ => (by rfl))) da_nil (by rfl)) (by decide) (by decide) (by rfl) (by rfl))).de (by rfl) (Or.inl rfl))
  (dss_cons (ds_set sc_law_line_of.nd (by rfl) (by first | exact Or.inl rfl | exact Or.inr rfl) ((fe_lst (da_cons (de_ix ix_seq ov_ix (de_call C.c_law_tiles_of hr (by rfl) T.g_law_tiles_of T.f_law_tiles_of.kp T.b_law_tiles_of (L2N.takes_of rfl rfl rfl rfl) (da_cons (de_var 1 (by rfl) (by first | exact Or.inl rfl | exact Or.inr (Or.inl rfl) | exact Or.inr (Or.inr rfl)) (by decide) (by decide)) da_nil (by rfl)) (by rfl) (by decide) (by rfl) (by rfl)) (de_call C.c_law_draw hr (by rfl) T.g_law_draw T.f_law_draw.kp T.b_law_draw (L2N.takes_of rfl rfl rfl rfl) (da_cons (de_var 0 (by rfl) (by first | exact Or.inl rfl | exact Or.inr (Or.inl rfl) | exact Or.inr (Or.inr rfl)) (by decide) (by decide)) (da_cons (de_callB call_len ov_lenQ (by rfl) T.z_len (by decide +kernel) (da_cons (de_ix ix_seq ov_ix (de_var 1 (by rfl) (by first | exact Or.inl rfl | exact Or.inr (Or.inl rfl) | exact Or.inr (Or.inr rfl)) (by decide) (by decide)) de_int (fun _ _ => (by rfl))) da_nil (by rfl)) (by decide) (by decide) (by rfl) (by rfl)) da_nil (by rfl)) (by rfl)) (by rfl) (by decide) (by rfl) (by rfl)) (fun _ _ => (by rfl))) da_nil (by rfl)) (by decide))).new (by rfl) (Or.inl rfl))
  (dss_cons (ds_set sc_law_line_of.nd (by rfl) (by first | exact Or.inl rfl | exact Or.inr rfl) ((fe_lst da_nil (by decide))).new (by rfl) (Or.inl rfl))
  (dss_cons (ds_for (passes_of rfl) (by rfl) (di_range1 (by rfl) T.z_range (da_cons (de_ix ix_seq ov_ix ((fe_lst (da_cons (de_call C.c_law_draw hr (by rfl) T.g_law_draw T.f_law_draw.kp T.b_law_draw (L2N.takes_of rfl rfl rfl rfl) (da_cons (de_var 0 (by rfl) (by first | exact Or.inl rfl | exact Or.inr (Or.inl rfl) | exact Or.inr (Or.inr rfl)) (by decide) (by decide)) (da_cons de_int da_nil (by rfl)) (by rfl)) (by rfl) (by decide) (by rfl) (by rfl)) (da_cons de_int da_nil (by rfl)) (by rfl)) (by decide))).de (de_callTy call_int1 ov_int (by rfl) T.z_int (by decide +kernel) (da_cons (de_cmp (op_eqD hr.units) ov_eq (de_call C.c_law_draw hr (by rfl) T.g_law_draw T.f_law_draw.kp T.b_law_draw (L2N.takes_of rfl rfl rfl rfl) (da_cons (de_var 0 (by rfl) (by first | exact Or.inl rfl | exact Or.inr (Or.inl rfl) | exact Or.inr (Or.inr rfl)) (by decide) (by decide)) (da_cons de_int da_nil (by rfl)) (by rfl)) (by rfl) (by decide) (by rfl) (by rfl)) de_int (nomark _)) da_nil (by rfl)) (by decide) (by decide) (by rfl) (by rfl)) (fun _ _ => (by rfl))) da_nil (by rfl)) (by rfl)) (dg_name sc_law_line_of.nd (by rfl) (by first | exact Or.inl rfl | exact Or.inr rfl) (by first | exact Or.inl rfl | exact Or.inr rfl)) (dss_cons (ds_expr (de_mut (by decide) PySem.F.plainAttrs_list PySem.F.slot_list_append PySem.F.type_list_append mt_appendR om_append appendM_ty (de_var 4 (by rfl) (by first | exact Or.inl rfl | exact Or.inr (Or.inl rfl) | exact Or.inr (Or.inr rfl)) (by decide) (by decide)) (da_cons (de_tupF (da_cons (de_call C.c_law_draw hr (by rfl) T.g_law_draw T.f_law_draw.kp T.b_law_draw (L2N.takes_of rfl rfl rfl rfl) (da_cons (de_var 0 (by rfl) (by first | exact Or.inl rfl | exact Or.inr (Or.inl rfl) | exact Or.inr (Or.inr rfl)) (by decide) (by decide)) (da_cons (de_ix ix_seq ov_ix (de_var 1 (by rfl) (by first | exact Or.inl rfl | exact Or.inr (Or.inl rfl) | exact Or.inr (Or.inr rfl)) (by decide) (by decide)) de_int (fun _ _ => (by rfl))) da_nil (by rfl)) (by rfl)) (by rfl) (by decide) (by rfl) (by rfl)) (da_cons (de_call C.c_law_draw hr (by rfl) T.g_law_draw T.f_law_draw.kp T.b_law_draw (L2N.takes_of rfl rfl rfl rfl) (da_cons (de_var 0 (by rfl) (by first | exact Or.inl rfl | exact Or.inr (Or.inl rfl) | exact Or.inr (Or.inr rfl)) (by decide) (by decide)) (da_cons (de_ix ix_seq ov_ix (de_var 1 (by rfl) (by first | exact Or.inl rfl | exact Or.inr (Or.inl rfl) | exact Or.inr (Or.inr rfl)) (by decide) (by decide)) de_int (fun _ _ => (by rfl))) da_nil (by rfl)) (by rfl)) (by rfl) (by decide) (by rfl) (by rfl)) da_nil (by rfl)) (by rfl)) (by decide)) da_nil (by rfl)) (by rfl) (by rfl) (by rfl) (by rfl) (by rfl)) (by rfl))
  (dss_cons (ds_expr (de_mut (by decide) PySem.F.plainAttrs_list PySem.F.slot_list_append PySem.F.type_list_append mt_appendR om_append appendM_ty (de_var 3 (by rfl) (by first | exact Or.inl rfl | exact Or.inr (Or.inl rfl) | exact Or.inr (Or.inr rfl)) (by decide) (by decide)) (da_cons (de_ix ix_seq ov_ix (de_ix ix_seq ov_ix (de_ix (ix_all (room100 hr)) ov_ixQ (de_var 2 (by rfl) (by first | exact Or.inl rfl | exact Or.inr (Or.inl rfl) | exact Or.inr (Or.inr rfl)) (by decide) (by decide)) (de_ix ix_seq ov_ix (de_var 3 (by rfl) (by first | exact Or.inl rfl | exact Or.inr (Or.inl rfl) | exact Or.inr (Or.inr rfl)) (by decide) (by decide)) (de_un un_neg ov_neg de_int) (fun _ _ => (by rfl))) (fun _ _ => (by rfl))) (de_ix ix_seq ov_ix (de_ix ix_seq ov_ix (de_var 4 (by rfl) (by first | exact Or.inl rfl | exact Or.inr (Or.inl rfl) | exact Or.inr (Or.inr rfl)) (by decide) (by decide)) (de_un un_neg ov_neg de_int) (fun _ _ => (by rfl))) de_int (fun _ _ => (by rfl))) (fun _ _ => (by rfl))) (de_ix ix_seq ov_ix (de_ix ix_seq ov_ix (de_var 4 (by rfl) (by first | exact Or.inl rfl | exact Or.inr (Or.inl rfl) | exact Or.inr (Or.inr rfl)) (by decide) (by decide)) (de_un un_neg ov_neg de_int) (fun _ _ => (by rfl))) de_int (fun _ _ => (by rfl))) (fun _ _ => (by rfl))) da_nil (by rfl)) (by rfl) (by rfl) (by rfl) (by rfl) (by rfl)) (by rfl))
  dss_nil)) (fun _ => (by rfl)))
  (dss_cons (ds_ret (de_tupF (da_cons ((de_var 3 (by rfl) (by first | exact Or.inl rfl | exact Or.inr (Or.inl rfl) | exact Or.inr (Or.inr rfl)) (by decide) (by decide))).frz (da_cons ((de_var 4 (by rfl) (by first | exact Or.inl rfl | exact Or.inr (Or.inl rfl) | exact Or.inr (Or.inr rfl)) (by decide) (by decide))).frz da_nil (by rfl)) (by rfl)) (by decide)))
  dss_nil)))))
theorem ok_law_odd_digits (T : Tx K mg ad fds tks ca ia ifd) (C : Ok Pg wd K mg base ad fds ca k) (CH : OkH Pg wd K mg base ad fds ca k) : FnOk Pg wd K mg base (L2N.CX Pg wd) (k + 3) (ad 19) (fds 19) ["pen", "rule", "digits"] (spD K (cl ca) 3 (run prog (k + 1) 255)) := by
  refine fn_okD (rn := run prog k) (nv := 3) (body := ir_law_odd_digits.body) T.f_law_odd_digits sc_law_odd_digits rfl rfl fun cdv A outer s H E hr => ?_
  exact (dss_cons (ds_set sc_law_odd_digits.nd (by rfl) (by first | exact Or.inl rfl | exact Or.inr rfl) (de_call C.c_law_draw hr (by rfl) T.g_law_draw T.f_law_draw.kp T.b_law_draw (L2N.takes_of rfl rfl rfl rfl) (da_cons (de_var 0 (by rfl) (by first | exact Or.inl rfl | exact Or.inr (Or.inl rfl) | exact Or.inr (Or.inr rfl)) (by decide) (by decide)) (da_cons (de_bin op_addAll ov_add (de_callB call_len ov_lenQ (by rfl) T.z_len (by decide +kernel) (da_cons (de_var 2 (by rfl) (by first | exact Or.inl rfl | exact Or.inr (Or.inl rfl) | exact Or.inr (Or.inr rfl)) (by decide) (by decide)) da_nil (by rfl)) (by decide) (by decide) (by rfl) (by rfl)) de_int) da_nil (by rfl)) (by rfl)) (by rfl) (by decide) (by rfl) (by rfl)) (by rfl) (Or.inl rfl))
  (dss_cons (ds_set sc_law_odd_digits.nd (by rfl) (by first | exact Or.inl rfl | exact Or.inr rfl) (de_tupF (da_cons de_int (da_cons de_int da_nil (by rfl)) (by rfl)) (by decide)) (by rfl) (Or.inl rfl))
  (dss_cons (ds_if (dt_cmp op_lt ov_lt (de_var 3 (by rfl) (by first | exact Or.inl rfl | exact Or.inr (Or.inl rfl) | exact Or.inr (Or.inr rfl)) (by decide) (by decide)) (de_callB call_len ov_lenQ (by rfl) T.z_len (by decide +kernel) (da_cons (de_var 2 (by rfl) (by first | exact Or.inl rfl | exact Or.inr (Or.inl rfl) | exact Or.inr (Or.inr rfl)) (by decide) (by decide)) da_nil (by rfl)) (by decide) (by decide) (by rfl) (by rfl)) (nomark _)) (dss_cons (ds_set sc_law_odd_digits.nd (by rfl) (by first | exact Or.inl rfl | exact Or.inr rfl) (de_ix ix_seq ov_ix (de_var 2 (by rfl) (by first | exact Or.inl rfl | exact Or.inr (Or.inl rfl) | exact Or.inr (Or.inr rfl)) (by decide) (by decide)) (de_var 3 (by rfl) (by first | exact Or.inl rfl | exact Or.inr (Or.inl rfl) | exact Or.inr (Or.inr rfl)) (by decide) (by decide)) (fun _ _ => (by rfl))) (by rfl) (Or.inl rfl))
  dss_nil) dss_nil)
  (dss_cons (ds_set sc_law_odd_digits.nd (by rfl) (by first | exact Or.inl rfl | exact Or.inr rfl) ((fe_lst (da_cons (de_tupF (da_cons (de_bin op_addAll ov_add (de_ix ix_seq ov_ix (de_var 4 (by rfl) (by first | exact Or.inl rfl | exact Or.inr (Or.inl rfl) | exact Or.inr (Or.inr rfl)) (by decide) (by decide)) de_int (fun _ _ => (by rfl))) de_int) (da_cons (de_ix ix_seq ov_ix (de_var 4 (by rfl) (by first | exact Or.inl rfl | exact Or.inr (Or.inl rfl) | exact Or.inr (Or.inr rfl)) (by decide) (by decide)) de_int (fun _ _ => (by rfl))) da_nil (by rfl)) (by rfl)) (by decide)) (da_cons (de_tupF (da_cons (de_ix ix_seq ov_ix (de_var 4 (by rfl) (by first | exact Or.inl rfl | exact Or.inr (Or.inl rfl) | exact Or.inr (Or.inr rfl)) (by decide) (by decide)) de_int (fun _ _ => (by rfl))) (da_cons (de_bin op_addAll ov_add (de_ix ix_seq ov_ix (de_var 4 (by rfl) (by first | exact Or.inl rfl | exact Or.inr (Or.inl rfl) | exact Or.inr (Or.inr rfl)) (by decide) (by decide)) de_int (fun _ _ => (by rfl))) de_int) da_nil (by rfl)) (by rfl)) (by decide)) (da_cons (de_tupF (da_cons (de_ix ix_seq ov_ix (de_var 1 (by rfl) (by first | exact Or.inl rfl | exact Or.inr (Or.inl rfl) | exact Or.inr (Or.inr rfl)) (by decide) (by decide)) de_int (fun _ _ => (by rfl))) (da_cons de_int da_nil (by rfl)) (by rfl)) (by decide)) da_nil (by rfl)) (by rfl)) (by rfl)) (by decide))).de (by rfl) (Or.inl rfl))
  (dss_cons (ds_set sc_law_odd_digits.nd (by rfl) (by first | exact Or.inl rfl | exact Or.inr rfl) (de_bin op_addAll ov_add (de_var 5 (by rfl) (by first | exact Or.inl rfl | exact Or.inr (Or.inl rfl) | exact Or.inr (Or.inr rfl)) (by decide) (by decide)) ((fe_lst (da_cons (de_tupF (da_cons de_int (da_cons (de_ix ix_seq ov_ix (de_var 1 (by rfl) (by first | exact Or.inl rfl | exact Or.inr (Or.inl rfl) | exact Or.inr (Or.inr rfl)) (by decide) (by decide)) de_int (fun _ _ => (by rfl))) da_nil (by rfl)) (by rfl)) (by decide)) (da_cons (de_tupF (da_cons (de_un un_neg ov_neg de_int) (da_cons de_int da_nil (by rfl)) (by rfl)) (by decide)) (da_cons (de_tupF (da_cons de_int (da_cons (de_un un_neg ov_neg de_int) da_nil (by rfl)) (by rfl)) (by decide)) da_nil (by rfl)) (by rfl)) (by rfl)) (by decide))).de) (by rfl) (Or.inl rfl))
  (dss_cons (ds_set sc_law_odd_digits.nd (by rfl) (by first | exact Or.inl rfl | exact Or.inr rfl) (de_bin op_addAll ov_add (de_var 5 (by rfl) (by first | exact Or.inl rfl | exact Or.inr (Or.inl rfl) | exact Or.inr (Or.inr rfl)) (by decide) (by decide)) ((fe_lst (da_cons (de_tupF (da_cons de_bl (da_cons de_int da_nil (by rfl)) (by rfl)) (by decide)) (da_cons (de_tupF (da_cons de_int (da_cons de_bl da_nil (by rfl)) (by rfl)) (by decide)) (da_cons (de_tupF (da_cons de_non (da_cons de_int da_nil (by rfl)) (by rfl)) (by decide)) (da_cons (de_tupF (da_cons (de_str (by decide +kernel) (okS_of (by decide +kernel))) (da_cons de_int da_nil (by rfl)) (by rfl)) (by decide)) (da_cons (de_bin op_addAll ov_add (de_var 4 (by rfl) (by first | exact Or.inl rfl | exact Or.inr (Or.inl rfl) | exact Or.inr (Or.inr rfl)) (by decide) (by decide)) (de_tupF (da_cons de_int da_nil (by rfl)) (by decide))) da_nil (by rfl)) (by rfl)) (by rfl)) (by rfl)) (by rfl)) (by decide))).de) (by rfl) (Or.inl rfl))
  (dss_cons (ds_set sc_law_odd_digits.nd (by rfl) (by first | exact Or.inl rfl | exact Or.inr rfl) (de_bin op_addAll ov_add (de_var 5 (by rfl) (by first | exact Or.inl rfl | exact Or.inr (Or.inl rfl) | exact Or.inr (Or.inr rfl)) (by decide) (by decide)) ((fe_lst (da_cons (de_slice sl_all os_slice (de_var 4 (by rfl) (by first | exact Or.inl rfl | exact Or.inr (Or.inl rfl) | exact Or.inr (Or.inr rfl)) (by decide) (by decide)) do_none (do_some de_int)) (da_cons ((fe_callTy (call_listQ (by rfl)) of_listQ listQ_lst (by rfl) T.z_list (by decide +kernel) (da_cons (de_var 4 (by rfl) (by first | exact Or.inl rfl | exact Or.inr (Or.inl rfl) | exact Or.inr (Or.inr rfl)) (by decide) (by decide)) da_nil (by rfl)) (by decide) (by decide) (by rfl) (by rfl))).de (da_cons de_non (da_cons de_int (da_cons (de_str (by decide +kernel) (okS_of (by decide +kernel))) da_nil (by rfl)) (by rfl)) (by rfl)) (by rfl)) (by rfl)) (by decide))).de) (by rfl) (Or.inl rfl))
  (dss_cons (ds_ret (de_bin op_addAll ov_add (de_bin op_addAll ov_add (de_slice sl_all os_slice (de_var 2 (by rfl) (by first | exact Or.inl rfl | exact Or.inr (Or.inl rfl) | exact Or.inr (Or.inr rfl)) (by decide) (by decide)) do_none (do_some (de_var 3 (by rfl) (by first | exact Or.inl rfl | exact Or.inr (Or.inl rfl) | exact Or.inr (Or.inr rfl)) (by decide) (by decide)))) ((fe_lst (da_cons (de_ix ix_seq ov_ix (de_bin op_addAll ov_add (de_var 5 (by rfl) (by first | exact Or.inl rfl | exact Or.inr (Or.inl rfl) | exact Or.inr (Or.inr rfl)) (by decide) (by decide)) ((fe_lst (da_cons (de_tupF (da_cons (de_var 4 (by rfl) (by first | exact Or.inl rfl | exact Or.inr (Or.inl rfl) | exact Or.inr (Or.inr rfl)) (by decide) (by decide)) (da_cons (de_var 4 (by rfl) (by first | exact Or.inl rfl | exact Or.inr (Or.inl rfl) | exact Or.inr (Or.inr rfl)) (by decide) (by decide)) da_nil (by rfl)) (by rfl)) (by decide)) da_nil (by rfl)) (by decide))).de) (de_call C.c_law_draw hr (by rfl) T.g_law_draw T.f_law_draw.kp T.b_law_draw (L2N.takes_of rfl rfl rfl rfl) (da_cons (de_var 0 (by rfl) (by first | exact Or.inl rfl | exact Or.inr (Or.inl rfl) | exact Or.inr (Or.inr rfl)) (by decide) (by decide)) (da_cons de_int da_nil (by rfl)) (by rfl)) (by rfl) (by decide) (by rfl) (by rfl)) (fun _ _ => (by rfl))) da_nil (by rfl)) (by decide))).de) (de_slice sl_all os_slice (de_var 2 (by rfl) (by first | exact Or.inl rfl | exact Or.inr (Or.inl rfl) | exact Or.inr (Or.inr rfl)) (by decide) (by decide)) (do_some (de_bin op_addAll ov_add (de_var 3 (by rfl) (by first | exact Or.inl rfl | exact Or.inr (Or.inl rfl) | exact Or.inr (Or.inr rfl)) (by decide) (by decide)) de_int)) do_none)))
  dss_nil))))))))
theorem ok_law_odd_of_k13 (T : Tx K mg ad fds tks ca ia ifd) (C : Ok Pg wd K mg base ad fds ca k) (CH : OkH Pg wd K mg base ad fds ca k) : FnOk Pg wd K mg base (L2N.CX Pg wd) (k + 3) (ad 20) (fds 20) ["pen", "rule", "line"] (spD K (cl ca) 3 (run prog (k + 1) 259)) := by
  refine fn_okD (rn := run prog k) (nv := 6) (body := ir_law_odd_of_k13.body) T.f_law_odd_of_k13 sc_law_odd_of_k13 rfl rfl fun cdv A outer s H E hr => ?_
  exact (dss_cons (ds_asg (de_var 2 (by rfl) (by first | exact Or.inl rfl | exact Or.inr (Or.inl rfl) | exact Or.inr (Or.inr rfl)) (by decide) (by decide)) (dg_tup (by rfl) (pgs_cons (pg_name sc_law_odd_of_k13.nd (by rfl) (by first | exact Or.inl rfl | exact Or.inr rfl) (by first | exact Or.inl rfl | exact Or.inr rfl)) (pgs_cons (pg_name sc_law_odd_of_k13.nd (by rfl) (by first | exact Or.inl rfl | exact Or.inr rfl) (by first | exact Or.inl rfl | exact Or.inr rfl)) pgs_nil)) (by rfl) (by rfl)) (by rfl) (by rfl) (by rfl))
  (dss_cons (ds_set sc_law_odd_of_k13.nd (by rfl) (by first | exact Or.inl rfl | exact Or.inr rfl) (de_call C.c_law_draw hr (by rfl) T.g_law_draw T.f_law_draw.kp T.b_law_draw (L2N.takes_of rfl rfl rfl rfl) (da_cons (de_var 0 (by rfl) (by first | exact Or.inl rfl | exact Or.inr (Or.inl rfl) | exact Or.inr (Or.inr rfl)) (by decide) (by decide)) (da_cons (de_callB call_len ov_lenQ (by rfl) T.z_len (by decide +kernel) (da_cons (de_var 3 (by rfl) (by first | exact Or.inl rfl | exact Or.inr (Or.inl rfl) | exact Or.inr (Or.inr rfl)) (by decide) (by decide)) da_nil (by rfl)) (by decide) (by decide) (by rfl) (by rfl)) da_nil (by rfl)) (by rfl)) (by rfl) (by decide) (by rfl) (by rfl)) (by rfl) (Or.inl rfl))
  (dss_cons (ds_set sc_law_odd_of_k13.nd (by rfl) (by first | exact Or.inl rfl | exact Or.inr rfl) (de_ix ix_seq ov_ix (de_call C.c_law_tiles_of hr (by rfl) T.g_law_tiles_of T.f_law_tiles_of.kp T.b_law_tiles_of (L2N.takes_of rfl rfl rfl rfl) (da_cons (de_var 1 (by rfl) (by first | exact Or.inl rfl | exact Or.inr (Or.inl rfl) | exact Or.inr (Or.inr rfl)) (by decide) (by decide)) da_nil (by rfl)) (by rfl) (by decide) (by rfl) (by rfl)) (de_call C.c_law_draw hr (by rfl) T.g_law_draw T.f_law_draw.kp T.b_law_draw (L2N.takes_of rfl rfl rfl rfl) (da_cons (de_var 0 (by rfl) (by first | exact Or.inl rfl | exact Or.inr (Or.inl rfl) | exact Or.inr (Or.inr rfl)) (by decide) (by decide)) (da_cons (de_callB call_len ov_lenQ (by rfl) T.z_len (by decide +kernel) (da_cons (de_ix ix_seq ov_ix (de_var 1 (by rfl) (by first | exact Or.inl rfl | exact Or.inr (Or.inl rfl) | exact Or.inr (Or.inr rfl)) (by decide) (by decide)) de_int (fun _ _ => (by rfl))) da_nil (by rfl)) (by decide) (by decide) (by rfl) (by rfl)) da_nil (by rfl)) (by rfl)) (by rfl) (by decide) (by rfl) (by rfl)) (fun _ _ => (by rfl))) (by rfl) (Or.inl rfl))
  (dss_cons (ds_set sc_law_odd_of_k13.nd (by rfl) (by first | exact Or.inl rfl | exact Or.inr rfl) ((fe_lst da_nil (by decide))).new (by rfl) (Or.inl rfl))
  (dss_cons (ds_for (passes_of rfl) (by rfl) (di_any ((fe_lst (da_cons (de_var 6 (by rfl) (by first | exact Or.inl rfl | exact Or.inr (Or.inl rfl) | exact Or.inr (Or.inr rfl)) (by decide) (by decide)) (da_cons (de_var 6 (by rfl) (by first | exact Or.inl rfl | exact Or.inr (Or.inl rfl) | exact Or.inr (Or.inr rfl)) (by decide) (by decide)) (da_cons (de_str (by decide +kernel) (okS_of (by decide +kernel))) (da_cons (de_str (by decide +kernel) (okS_of (by decide +kernel))) (da_cons (de_str (by decide +kernel) (okS_of (by decide +kernel))) (da_cons de_non (da_cons de_int (da_cons ((fe_lst (da_cons (de_var 6 (by rfl) (by first | exact Or.inl rfl | exact Or.inr (Or.inl rfl) | exact Or.inr (Or.inr rfl)) (by decide) (by decide)) da_nil (by rfl)) (by decide))).de da_nil (by rfl)) (by rfl)) (by rfl)) (by rfl)) (by rfl)) (by rfl)) (by rfl)) (by rfl)) (by decide))).de) (dg_name sc_law_odd_of_k13.nd (by rfl) (by first | exact Or.inl rfl | exact Or.inr rfl) (by first | exact Or.inl rfl | exact Or.inr rfl)) (dss_cons (ds_expr (de_mut (by decide) PySem.F.plainAttrs_list PySem.F.slot_list_append PySem.F.type_list_append mt_appendR om_append appendM_ty (de_var 7 (by rfl) (by first | exact Or.inl rfl | exact Or.inr (Or.inl rfl) | exact Or.inr (Or.inr rfl)) (by decide) (by decide)) (da_cons (de_tupF (da_cons (de_bin op_addAll ov_add (de_bin op_addAll ov_add (de_slice sl_all os_slice (de_var 3 (by rfl) (by first | exact Or.inl rfl | exact Or.inr (Or.inl rfl) | exact Or.inr (Or.inr rfl)) (by decide) (by decide)) do_none (do_some (de_var 5 (by rfl) (by first | exact Or.inl rfl | exact Or.inr (Or.inl rfl) | exact Or.inr (Or.inr rfl)) (by decide) (by decide)))) ((fe_lst (da_cons (de_var 8 (by rfl) (by first | exact Or.inl rfl | exact Or.inr (Or.inl rfl) | exact Or.inr (Or.inr rfl)) (by decide) (by decide)) da_nil (by rfl)) (by decide))).de) (de_slice sl_all os_slice (de_var 3 (by rfl) (by first | exact Or.inl rfl | exact Or.inr (Or.inl rfl) | exact Or.inr (Or.inr rfl)) (by decide) (by decide)) (do_some (de_bin op_addAll ov_add (de_var 5 (by rfl) (by first | exact Or.inl rfl | exact Or.inr (Or.inl rfl) | exact Or.inr (Or.inr rfl)) (by decide) (by decide)) de_int)) do_none)) (da_cons (de_var 4 (by rfl) (by first | exact Or.inl rfl | exact Or.inr (Or.inl rfl) | exact Or.inr (Or.inr rfl)) (by decide) (by decide)) da_nil (by rfl)) (by rfl)) (by decide)) da_nil (by rfl)) (by rfl) (by rfl) (by rfl) (by rfl) (by rfl)) (by rfl))
  dss_nil) (fun _ => (by rfl)))
  (dss_cons (ds_set sc_law_odd_of_k13.nd (by rfl) (by first | exact Or.inl rfl | exact Or.inr rfl) (fe_bin op_cat of_cat catP_lst (de_var 7 (by rfl) (by first | exact Or.inl rfl | exact Or.inr (Or.inl rfl) | exact Or.inr (Or.inr rfl)) (by decide) (by decide)) ((fe_lst (da_cons (de_tupF (da_cons (de_callTy call_tupleQ ov_tuple (by rfl) T.z_tuple (by decide +kernel) (da_cons (de_var 3 (by rfl) (by first | exact Or.inl rfl | exact Or.inr (Or.inl rfl) | exact Or.inr (Or.inr rfl)) (by decide) (by decide)) da_nil (by rfl)) (by decide) (by decide) (by rfl) (by rfl)) (da_cons (de_var 4 (by rfl) (by first | exact Or.inl rfl | exact Or.inr (Or.inl rfl) | exact Or.inr (Or.inr rfl)) (by decide) (by decide)) da_nil (by rfl)) (by rfl)) (by decide)) (da_cons (de_tupF (da_cons (de_var 3 (by rfl) (by first | exact Or.inl rfl | exact Or.inr (Or.inl rfl) | exact Or.inr (Or.inr rfl)) (by decide) (by decide)) (da_cons (de_callTy call_tupleQ ov_tuple (by rfl) T.z_tuple (by decide +kernel) (da_cons (de_var 4 (by rfl) (by first | exact Or.inl rfl | exact Or.inr (Or.inl rfl) | exact Or.inr (Or.inr rfl)) (by decide) (by decide)) da_nil (by rfl)) (by decide) (by decide) (by rfl) (by rfl)) da_nil (by rfl)) (by rfl)) (by decide)) (da_cons ((fe_lst (da_cons (de_var 3 (by rfl) (by first | exact Or.inl rfl | exact Or.inr (Or.inl rfl) | exact Or.inr (Or.inr rfl)) (by decide) (by decide)) (da_cons (de_var 4 (by rfl) (by first | exact Or.inl rfl | exact Or.inr (Or.inl rfl) | exact Or.inr (Or.inr rfl)) (by decide) (by decide)) da_nil (by rfl)) (by rfl)) (by decide))).de da_nil (by rfl)) (by rfl)) (by rfl)) (by decide))).de).new (by rfl) (Or.inl rfl))
  (dss_cons (ds_set sc_law_odd_of_k13.nd (by rfl) (by first | exact Or.inl rfl | exact Or.inr rfl) (fe_bin op_cat of_cat catP_lst (de_var 7 (by rfl) (by first | exact Or.inl rfl | exact Or.inr (Or.inl rfl) | exact Or.inr (Or.inr rfl)) (by decide) (by decide)) ((fe_lst (da_cons (de_tupF (da_cons (de_var 3 (by rfl) (by first | exact Or.inl rfl | exact Or.inr (Or.inl rfl) | exact Or.inr (Or.inr rfl)) (by decide) (by decide)) da_nil (by rfl)) (by decide)) (da_cons (de_tupF (da_cons (de_var 3 (by rfl) (by first | exact Or.inl rfl | exact Or.inr (Or.inl rfl) | exact Or.inr (Or.inr rfl)) (by decide) (by decide)) (da_cons (de_var 4 (by rfl) (by first | exact Or.inl rfl | exact Or.inr (Or.inl rfl) | exact Or.inr (Or.inr rfl)) (by decide) (by decide)) (da_cons de_int da_nil (by rfl)) (by rfl)) (by rfl)) (by decide)) da_nil (by rfl)) (by rfl)) (by decide))).de).new (by rfl) (Or.inl rfl))
  (dss_cons (ds_set sc_law_odd_of_k13.nd (by rfl) (by first | exact Or.inl rfl | exact Or.inr rfl) (fe_bin op_cat of_cat catP_lst (de_var 7 (by rfl) (by first | exact Or.inl rfl | exact Or.inr (Or.inl rfl) | exact Or.inr (Or.inr rfl)) (by decide) (by decide)) ((fe_lst (da_cons (de_tupF (da_cons (de_slice sl_all os_slice (de_var 3 (by rfl) (by first | exact Or.inl rfl | exact Or.inr (Or.inl rfl) | exact Or.inr (Or.inr rfl)) (by decide) (by decide)) do_none (do_some (de_un un_neg ov_neg de_int))) (da_cons (de_var 4 (by rfl) (by first | exact Or.inl rfl | exact Or.inr (Or.inl rfl) | exact Or.inr (Or.inr rfl)) (by decide) (by decide)) da_nil (by rfl)) (by rfl)) (by decide)) (da_cons (de_tupF (da_cons (de_bin op_addAll ov_add (de_var 3 (by rfl) (by first | exact Or.inl rfl | exact Or.inr (Or.inl rfl) | exact Or.inr (Or.inr rfl)) (by decide) (by decide)) ((fe_lst (da_cons (de_var 6 (by rfl) (by first | exact Or.inl rfl | exact Or.inr (Or.inl rfl) | exact Or.inr (Or.inr rfl)) (by decide) (by decide)) da_nil (by rfl)) (by decide))).de) (da_cons (de_var 4 (by rfl) (by first | exact Or.inl rfl | exact Or.inr (Or.inl rfl) | exact Or.inr (Or.inr rfl)) (by decide) (by decide)) da_nil (by rfl)) (by rfl)) (by decide)) (da_cons (de_tupF (da_cons (de_var 3 (by rfl) (by first | exact Or.inl rfl | exact Or.inr (Or.inl rfl) | exact Or.inr (Or.inr rfl)) (by decide) (by decide)) (da_cons (de_slice sl_all os_slice (de_var 4 (by rfl) (by first | exact Or.inl rfl | exact Or.inr (Or.inl rfl) | exact Or.inr (Or.inr rfl)) (by decide) (by decide)) (do_some de_int) do_none) da_nil (by rfl)) (by rfl)) (by decide)) da_nil (by rfl)) (by rfl)) (by rfl)) (by decide))).de).new (by rfl) (Or.inl rfl))
  (dss_cons (ds_set sc_law_odd_of_k13.nd (by rfl) (by first | exact Or.inl rfl | exact Or.inr rfl) (fe_bin op_cat of_cat catP_lst (de_var 7 (by rfl) (by first | exact Or.inl rfl | exact Or.inr (Or.inl rfl) | exact Or.inr (Or.inr rfl)) (by decide) (by decide)) ((fe_lst (da_cons (de_tupF (da_cons (de_var 4 (by rfl) (by first | exact Or.inl rfl | exact Or.inr (Or.inl rfl) | exact Or.inr (Or.inr rfl)) (by decide) (by decide)) (da_cons (de_var 3 (by rfl) (by first | exact Or.inl rfl | exact Or.inr (Or.inl rfl) | exact Or.inr (Or.inr rfl)) (by decide) (by decide)) da_nil (by rfl)) (by rfl)) (by decide)) (da_cons de_non da_nil (by rfl)) (by rfl)) (by decide))).de).new (by rfl) (Or.inl rfl))
  (dss_cons (ds_set sc_law_odd_of_k13.nd (by rfl) (by first | exact Or.inl rfl | exact Or.inr rfl) (fe_bin op_cat of_cat catP_lst (de_bin op_addAll ov_add (de_var 7 (by rfl) (by first | exact Or.inl rfl | exact Or.inr (Or.inl rfl) | exact Or.inr (Or.inr rfl)) (by decide) (by decide)) (de_bin op_mulAll ov_mul ((fe_lst (da_cons (de_tupF (da_cons (de_var 3 (by rfl) (by first | exact Or.inl rfl | exact Or.inr (Or.inl rfl) | exact Or.inr (Or.inr rfl)) (by decide) (by decide)) (da_cons (de_call C.c_law_odd_digits hr (by rfl) T.g_law_odd_digits T.f_law_odd_digits.kp T.b_law_odd_digits (L2N.takes_of rfl rfl rfl rfl) (da_cons (de_var 0 (by rfl) (by first | exact Or.inl rfl | exact Or.inr (Or.inl rfl) | exact Or.inr (Or.inr rfl)) (by decide) (by decide)) (da_cons (de_var 1 (by rfl) (by first | exact Or.inl rfl | exact Or.inr (Or.inl rfl) | exact Or.inr (Or.inr rfl)) (by decide) (by decide)) (da_cons (de_var 4 (by rfl) (by first | exact Or.inl rfl | exact Or.inr (Or.inl rfl) | exact Or.inr (Or.inr rfl)) (by decide) (by decide)) da_nil (by rfl)) (by rfl)) (by rfl)) (by rfl) (by decide) (by rfl) (by rfl)) da_nil (by rfl)) (by rfl)) (by decide)) da_nil (by rfl)) (by decide))).de de_int)) ((fe_lst (da_cons (de_tupF (da_cons (de_str (by decide +kernel) (okS_of (by decide +kernel))) (da_cons (de_var 4 (by rfl) (by first | exact Or.inl rfl | exact Or.inr (Or.inl rfl) | exact Or.inr (Or.inr rfl)) (by decide) (by decide)) da_nil (by rfl)) (by rfl)) (by decide)) (da_cons (de_tupF (da_cons (de_rev (de_var 3 (by rfl) (by first | exact Or.inl rfl | exact Or.inr (Or.inl rfl) | exact Or.inr (Or.inr rfl)) (by decide) (by decide))) (da_cons (de_var 4 (by rfl) (by first | exact Or.inl rfl | exact Or.inr (Or.inl rfl) | exact Or.inr (Or.inr rfl)) (by decide) (by decide)) da_nil (by rfl)) (by rfl)) (by decide)) da_nil (by rfl)) (by rfl)) (by decide))).de).new (by rfl) (Or.inl rfl))
  (dss_cons (ds_ret (de_ix ix_seq ov_ix (de_bin op_addAll ov_add (de_var 7 (by rfl) (by first | exact Or.inl rfl | exact Or.inr (Or.inl rfl) | exact Or.inr (Or.inr rfl)) (by decide) (by decide)) ((fe_lst (da_cons (de_tupF (da_cons (de_tupF da_nil (by decide)) (da_cons (de_tupF da_nil (by decide)) da_nil (by rfl)) (by rfl)) (by decide)) (da_cons (de_tupF (da_cons ((fe_lst da_nil (by decide))).de (da_cons ((fe_lst da_nil (by decide))).de da_nil (by rfl)) (by rfl)) (by decide)) (da_cons de_int (da_cons (fe_dnew).de da_nil (by rfl)) (by rfl)) (by rfl)) (by rfl)) (by decide))).de) (de_call C.c_law_draw hr (by rfl) T.g_law_draw T.f_law_draw.kp T.b_law_draw (L2N.takes_of rfl rfl rfl rfl) (da_cons (de_var 0 (by rfl) (by first | exact Or.inl rfl | exact Or.inr (Or.inl rfl) | exact Or.inr (Or.inr rfl)) (by decide) (by decide)) (da_cons (de_bin op_addAll ov_add (de_callB call_len ov_lenQ (by rfl) T.z_len (by decide +kernel) (da_cons (de_var 7 (by rfl) (by first | exact Or.inl rfl | exact Or.inr (Or.inl rfl) | exact Or.inr (Or.inr rfl)) (by decide) (by decide)) da_nil (by rfl)) (by decide) (by decide) (by rfl) (by rfl)) de_int) da_nil (by rfl)) (by rfl)) (by rfl) (by decide) (by rfl) (by rfl)) (fun _ _ => (by rfl))))
  dss_nil)))))))))))
theorem ok_law_refused_k13 (T : Tx K mg ad fds tks ca ia ifd) (C : Ok Pg wd K mg base ad fds ca k) (CH : OkH Pg wd K mg base ad fds ca k) : FnOk Pg wd K mg base (L2N.CX Pg wd) (k + 3) (ad 21) (fds 21) ["rule", "thing"] (spD K (cl ca) 2 (run prog (k + 1) 299)) := by
  refine fn_okD (rn := run prog k) (nv := 1) (body := ir_law_refused_k13.body) T.f_law_refused_k13 sc_law_refused_k13 rfl rfl fun cdv A outer s H E hr => ?_
  exact (dss_cons (ds_try_as (by rfl) (T.ck_FloorError _) (by rfl) (by rfl) sc_law_refused_k13.nd (by rfl) (by rfl) ⟨by rfl, by decide, .inl T.cg_FloorError⟩ (L2N.takes_of rfl rfl rfl rfl) (fun _ _ _ tkT _ => (dss_cons (ds_expr (de_call C.c_place_far hr (by rfl) T.g_place_far T.f_place_far.kp T.b_place_far tkT (da_cons (de_var 0 (by rfl) (by first | exact Or.inl rfl | exact Or.inr (Or.inl rfl) | exact Or.inr (Or.inr rfl)) (by decide) (by decide)) (da_cons (de_var 1 (by rfl) (by first | exact Or.inl rfl | exact Or.inr (Or.inl rfl) | exact Or.inr (Or.inr rfl)) (by decide) (by decide)) da_nil (by rfl)) (by rfl)) (by rfl) (by decide) (by rfl) (by rfl)) (by rfl))
  dss_nil)) (fun _ _ _ _ _ hx => (dss_cons (ds_ret (de_cmp (op_eqD hr.units) ov_eq (de_callH hx (fun _ e => by cases e; exact CH.h_law_kind_of_k12 _) (roomH_mk hr _) (by rfl) T.g_law_kind_of_k12 T.f_law_kind_of_k12.kp T.b_law_kind_of_k12 takes0N (da_cons (de_var 2 (by rfl) (by first | exact Or.inl rfl | exact Or.inr (Or.inl rfl) | exact Or.inr (Or.inr rfl)) (by decide) (by decide)) da_nil (by rfl)) (by rfl) (by decide) (by rfl) (by rfl)) (de_str (by decide +kernel) (okS_of (by decide +kernel))) (nomark _)))
  dss_nil)))
  (dss_cons (ds_ret de_bl)
  dss_nil))
theorem ok_law_right_k13 (T : Tx K mg ad fds tks ca ia ifd) (C : Ok Pg wd K mg base ad fds ca k) (CH : OkH Pg wd K mg base ad fds ca k) : FnOk Pg wd K mg base (L2N.CX Pg wd) (k + 3) (ad 22) (fds 22) ["rule", "thing"] (spD K (cl ca) 2 (run prog (k + 1) 314)) := by
  refine fn_okD (rn := run prog k) (nv := 2) (body := ir_law_right_k13.body) T.f_law_right_k13 sc_law_right_k13 rfl rfl fun cdv A outer s H E hr => ?_
  exact (dss_cons (ds_set sc_law_right_k13.nd (by rfl) (by first | exact Or.inl rfl | exact Or.inr rfl) (de_call C.c_law_due_of_k13 hr (by rfl) T.g_law_due_of_k13 T.f_law_due_of_k13.kp T.b_law_due_of_k13 (L2N.takes_of rfl rfl rfl rfl) (da_cons (de_var 0 (by rfl) (by first | exact Or.inl rfl | exact Or.inr (Or.inl rfl) | exact Or.inr (Or.inr rfl)) (by decide) (by decide)) (da_cons (de_var 1 (by rfl) (by first | exact Or.inl rfl | exact Or.inr (Or.inl rfl) | exact Or.inr (Or.inr rfl)) (by decide) (by decide)) da_nil (by rfl)) (by rfl)) (by rfl) (by decide) (by rfl) (by rfl)) (by rfl) (Or.inl rfl))
  (dss_cons (ds_set sc_law_right_k13.nd (by rfl) (by first | exact Or.inl rfl | exact Or.inr rfl) (de_call C.c_line_holds hr (by rfl) T.g_line_holds T.f_line_holds.kp T.b_line_holds (L2N.takes_of rfl rfl rfl rfl) (da_cons (de_var 0 (by rfl) (by first | exact Or.inl rfl | exact Or.inr (Or.inl rfl) | exact Or.inr (Or.inr rfl)) (by decide) (by decide)) (da_cons (de_var 1 (by rfl) (by first | exact Or.inl rfl | exact Or.inr (Or.inl rfl) | exact Or.inr (Or.inr rfl)) (by decide) (by decide)) da_nil (by rfl)) (by rfl)) (by rfl) (by decide) (by rfl) (by rfl)) (by rfl) (Or.inl rfl))
  (dss_cons (ds_ret (de_and (de_isi (T := "bool") (.inl rfl) (by rfl) (by rfl) T.z_isinstance (by rfl) T.z_bool (by decide +kernel) (by decide) (by decide) (de_var 3 (by rfl) (by first | exact Or.inl rfl | exact Or.inr (Or.inl rfl) | exact Or.inr (Or.inr rfl)) (by decide) (by decide)) (by rfl) (by rfl) (by rfl)) (de_and (de_cmp (op_eqD hr.units) ov_eq (de_var 3 (by rfl) (by first | exact Or.inl rfl | exact Or.inr (Or.inl rfl) | exact Or.inr (Or.inr rfl)) (by decide) (by decide)) (de_var 2 (by rfl) (by first | exact Or.inl rfl | exact Or.inr (Or.inl rfl) | exact Or.inr (Or.inr rfl)) (by decide) (by decide)) (nomark _)) (de_one (de_cmp (op_eqD hr.units) ov_eq (de_call C.c_line_holds hr (by rfl) T.g_line_holds T.f_line_holds.kp T.b_line_holds (L2N.takes_of rfl rfl rfl rfl) (da_cons (de_var 0 (by rfl) (by first | exact Or.inl rfl | exact Or.inr (Or.inl rfl) | exact Or.inr (Or.inr rfl)) (by decide) (by decide)) (da_cons (de_var 1 (by rfl) (by first | exact Or.inl rfl | exact Or.inr (Or.inl rfl) | exact Or.inr (Or.inr rfl)) (by decide) (by decide)) da_nil (by rfl)) (by rfl)) (by rfl) (by decide) (by rfl) (by rfl)) (de_var 2 (by rfl) (by first | exact Or.inl rfl | exact Or.inr (Or.inl rfl) | exact Or.inr (Or.inr rfl)) (by decide) (by decide)) (nomark _))))))
  dss_nil)))
theorem ok_law_k13 (T : Tx K mg ad fds tks ca ia ifd) (C : Ok Pg wd K mg base ad fds ca k) (CH : OkH Pg wd K mg base ad fds ca k) : FnOk Pg wd K mg base (L2N.CX Pg wd) (k + 3) (ad 23) (fds 23) ["script"] (spD K (cl ca) 1 (run prog (k + 1) 174)) := by
  refine fn_okD (rn := run prog k) (nv := 6) (body := ir_law_k13.body) T.f_law_k13 sc_law_k13 rfl rfl fun cdv A outer s H E hr => ?_
  exact (dss_cons (ds_for (passes_of rfl) (by rfl) (di_any (de_bin op_addAll ov_add ((fe_lst (da_cons (de_call C.c_law_cell_at hr (by rfl) T.g_law_cell_at T.f_law_cell_at.kp T.b_law_cell_at (L2N.takes_of rfl rfl rfl rfl) (da_cons (de_var 0 (by rfl) (by first | exact Or.inl rfl | exact Or.inr (Or.inl rfl) | exact Or.inr (Or.inr rfl)) (by decide) (by decide)) (da_cons de_int da_nil (by rfl)) (by rfl)) (by rfl) (by decide) (by rfl) (by rfl)) da_nil (by rfl)) (by decide))).de (de_slice sl_all os_slice (de_var 0 (by rfl) (by first | exact Or.inl rfl | exact Or.inr (Or.inl rfl) | exact Or.inr (Or.inr rfl)) (by decide) (by decide)) (do_some de_int) (do_some de_int)))) (dg_name sc_law_k13.nd (by rfl) (by first | exact Or.inl rfl | exact Or.inr rfl) (by first | exact Or.inl rfl | exact Or.inr rfl)) (dss_cons (ds_set sc_law_k13.nd (by rfl) (by first | exact Or.inl rfl | exact Or.inr rfl) (de_call C.c_law_pen_of hr (by rfl) T.g_law_pen_of T.f_law_pen_of.kp T.b_law_pen_of (L2N.takes_of rfl rfl rfl rfl) (da_cons (de_var 1 (by rfl) (by first | exact Or.inl rfl | exact Or.inr (Or.inl rfl) | exact Or.inr (Or.inr rfl)) (by decide) (by decide)) da_nil (by rfl)) (by rfl) (by decide) (by rfl) (by rfl)) (by rfl) (Or.inl rfl))
  (dss_cons (ds_set sc_law_k13.nd (by rfl) (by first | exact Or.inl rfl | exact Or.inr rfl) (de_call C.c_law_rule_by_k09 hr (by rfl) T.g_law_rule_by_k09 T.f_law_rule_by_k09.kp T.b_law_rule_by_k09 (L2N.takes_of rfl rfl rfl rfl) (da_cons (de_var 2 (by rfl) (by first | exact Or.inl rfl | exact Or.inr (Or.inl rfl) | exact Or.inr (Or.inr rfl)) (by decide) (by decide)) (da_cons de_int da_nil (by rfl)) (by rfl)) (by rfl) (by decide) (by rfl) (by rfl)) (by rfl) (Or.inl rfl))
  (dss_cons (ds_set sc_law_k13.nd (by rfl) (by first | exact Or.inl rfl | exact Or.inr rfl) (de_call C.c_law_line_of hr (by rfl) T.g_law_line_of T.f_law_line_of.kp T.b_law_line_of (L2N.takes_of rfl rfl rfl rfl) (da_cons (de_var 2 (by rfl) (by first | exact Or.inl rfl | exact Or.inr (Or.inl rfl) | exact Or.inr (Or.inr rfl)) (by decide) (by decide)) (da_cons (de_var 3 (by rfl) (by first | exact Or.inl rfl | exact Or.inr (Or.inl rfl) | exact Or.inr (Or.inr rfl)) (by decide) (by decide)) da_nil (by rfl)) (by rfl)) (by rfl) (by decide) (by rfl) (by rfl)) (by rfl) (Or.inl rfl))
  (dss_cons (ds_if (dt_cmp op_notBl ov_notB (de_call C.c_line_holds hr (by rfl) T.g_line_holds T.f_line_holds.kp T.b_line_holds (L2N.takes_of rfl rfl rfl rfl) (da_cons (de_var 3 (by rfl) (by first | exact Or.inl rfl | exact Or.inr (Or.inl rfl) | exact Or.inr (Or.inr rfl)) (by decide) (by decide)) (da_cons (de_var 4 (by rfl) (by first | exact Or.inl rfl | exact Or.inr (Or.inl rfl) | exact Or.inr (Or.inr rfl)) (by decide) (by decide)) da_nil (by rfl)) (by rfl)) (by rfl) (by decide) (by rfl) (by rfl)) de_bl (nomark _)) (dss_cons (ds_ret de_bl)
  dss_nil) dss_nil)
  (dss_cons (ds_for (passes_of rfl) (by rfl) (di_range1 (by rfl) T.z_range (da_cons de_int da_nil (by rfl)) (by rfl)) (dg_name sc_law_k13.nd (by rfl) (by first | exact Or.inl rfl | exact Or.inr rfl) (by first | exact Or.inl rfl | exact Or.inr rfl)) (dss_cons (ds_if (dt_not (dt_val (de_call C.c_law_right_k13 hr (by rfl) T.g_law_right_k13 T.f_law_right_k13.kp T.b_law_right_k13 (L2N.takes_of rfl rfl rfl rfl) (da_cons (de_var 3 (by rfl) (by first | exact Or.inl rfl | exact Or.inr (Or.inl rfl) | exact Or.inr (Or.inr rfl)) (by decide) (by decide)) (da_cons (de_call C.c_law_odd_of_k13 hr (by rfl) T.g_law_odd_of_k13 T.f_law_odd_of_k13.kp T.b_law_odd_of_k13 (L2N.takes_of rfl rfl rfl rfl) (da_cons (de_var 2 (by rfl) (by first | exact Or.inl rfl | exact Or.inr (Or.inl rfl) | exact Or.inr (Or.inr rfl)) (by decide) (by decide)) (da_cons (de_var 3 (by rfl) (by first | exact Or.inl rfl | exact Or.inr (Or.inl rfl) | exact Or.inr (Or.inr rfl)) (by decide) (by decide)) (da_cons (de_var 4 (by rfl) (by first | exact Or.inl rfl | exact Or.inr (Or.inl rfl) | exact Or.inr (Or.inr rfl)) (by decide) (by decide)) da_nil (by rfl)) (by rfl)) (by rfl)) (by rfl) (by decide) (by rfl) (by rfl)) da_nil (by rfl)) (by rfl)) (by rfl) (by decide) (by rfl) (by rfl)) (fun _ => (by rfl)))) (dss_cons (ds_ret de_bl)
  dss_nil) dss_nil)
  dss_nil) (fun _ => (by rfl)))
  (dss_cons (ds_for (passes_of rfl) (by rfl) (di_any ((fe_lst (da_cons (de_call C.c_law_odd_digits hr (by rfl) T.g_law_odd_digits T.f_law_odd_digits.kp T.b_law_odd_digits (L2N.takes_of rfl rfl rfl rfl) (da_cons (de_var 2 (by rfl) (by first | exact Or.inl rfl | exact Or.inr (Or.inl rfl) | exact Or.inr (Or.inr rfl)) (by decide) (by decide)) (da_cons (de_var 3 (by rfl) (by first | exact Or.inl rfl | exact Or.inr (Or.inl rfl) | exact Or.inr (Or.inr rfl)) (by decide) (by decide)) (da_cons (de_ix ix_seq ov_ix (de_var 4 (by rfl) (by first | exact Or.inl rfl | exact Or.inr (Or.inl rfl) | exact Or.inr (Or.inr rfl)) (by decide) (by decide)) de_int (fun _ _ => (by rfl))) da_nil (by rfl)) (by rfl)) (by rfl)) (by rfl) (by decide) (by rfl) (by rfl)) (da_cons (de_callTy call_tupleQ ov_tuple (by rfl) T.z_tuple (by decide +kernel) (da_cons (de_ix ix_seq ov_ix (de_var 4 (by rfl) (by first | exact Or.inl rfl | exact Or.inr (Or.inl rfl) | exact Or.inr (Or.inr rfl)) (by decide) (by decide)) de_int (fun _ _ => (by rfl))) da_nil (by rfl)) (by decide) (by decide) (by rfl) (by rfl)) (da_cons de_non (da_cons (de_bin op_mulAll ov_mul ((fe_lst (da_cons (de_tupF (da_cons de_int (da_cons de_int da_nil (by rfl)) (by rfl)) (by decide)) da_nil (by rfl)) (by decide))).de de_int) (da_cons (de_str (by decide +kernel) (okS_of (by decide +kernel))) (da_cons (fe_dnew).de (da_cons de_int da_nil (by rfl)) (by rfl)) (by rfl)) (by rfl)) (by rfl)) (by rfl)) (by rfl)) (by decide))).de) (dg_name sc_law_k13.nd (by rfl) (by first | exact Or.inl rfl | exact Or.inr rfl) (by first | exact Or.inl rfl | exact Or.inr rfl)) (dss_cons (ds_if (dw_or (dt_not (dt_val (de_call C.c_law_digits_good hr (by rfl) T.g_law_digits_good T.f_law_digits_good.kp T.b_law_digits_good (L2N.takes_of rfl rfl rfl rfl) (da_cons (de_var 3 (by rfl) (by first | exact Or.inl rfl | exact Or.inr (Or.inl rfl) | exact Or.inr (Or.inr rfl)) (by decide) (by decide)) (da_cons (de_var 6 (by rfl) (by first | exact Or.inl rfl | exact Or.inr (Or.inl rfl) | exact Or.inr (Or.inr rfl)) (by decide) (by decide)) da_nil (by rfl)) (by rfl)) (by rfl) (by decide) (by rfl) (by rfl)) (fun _ => (by rfl)))) (dw_or1 (dt_cmp op_gt ov_gt (de_callB call_len ov_lenQ (by rfl) T.z_len (by decide +kernel) (da_cons (de_var 6 (by rfl) (by first | exact Or.inl rfl | exact Or.inr (Or.inl rfl) | exact Or.inr (Or.inr rfl)) (by decide) (by decide)) da_nil (by rfl)) (by decide) (by decide) (by rfl) (by rfl)) de_int (nomark _)))).t (dss_cons (ds_if (dt_not (dt_val (de_call C.c_law_refused_k13 hr (by rfl) T.g_law_refused_k13 T.f_law_refused_k13.kp T.b_law_refused_k13 (L2N.takes_of rfl rfl rfl rfl) (da_cons (de_var 3 (by rfl) (by first | exact Or.inl rfl | exact Or.inr (Or.inl rfl) | exact Or.inr (Or.inr rfl)) (by decide) (by decide)) (da_cons (de_var 6 (by rfl) (by first | exact Or.inl rfl | exact Or.inr (Or.inl rfl) | exact Or.inr (Or.inr rfl)) (by decide) (by decide)) da_nil (by rfl)) (by rfl)) (by rfl) (by decide) (by rfl) (by rfl)) (fun _ => (by rfl)))) (dss_cons (ds_ret de_bl)
  dss_nil) dss_nil)
  dss_nil) dss_nil)
  dss_nil) (fun _ => (by rfl)))
  dss_nil)))))) (fun _ => (by rfl)))
  (dss_cons (ds_ret de_bl)
  dss_nil))
theorem all_ok (T : Tx K mg ad fds tks ca ia ifd) : ∀ k, Ok Pg wd K mg base ad fds ca k
  | 0 => by
    have z : ∀ {f : Addr} {fd : FuncData} {ps : List Str} {n i : Nat}, ps.length = n → FnOk Pg wd K mg base (L2N.CX Pg wd) 2 f fd ps (spD K (cl ca) n (run prog 0 i)) := fun {f fd ps n i} hl => ⟨fun vs H Q E q => by
      obtain ⟨m, B, S, ds, hS, rd, hd, q⟩ := q
      exact q.elim, fun A outer s H args us vs Q E hr e0 hb hv q => by
      obtain ⟨m, B, S, ds, hS, rd, hd, q⟩ := q
      exact q.elim⟩
    exact ⟨z rfl, z rfl, z rfl, z rfl, z rfl, z rfl, z rfl, z rfl, z rfl, z rfl, z rfl, z rfl, z rfl, z rfl, z rfl, z rfl, z rfl, z rfl, z rfl, z rfl, z rfl, z rfl, z rfl⟩
  | k + 1 => by
    have C : Ok Pg wd K mg base ad fds ca k := all_ok T k
    have CH : OkH Pg wd K mg base ad fds ca k := all_okH T k
    exact ⟨ok_is_whole T C CH, ok_is_tile T C CH, ok_tiles_of T C CH, ok_block_of T C CH, ok_line_by T C CH, ok_digits_good T C CH, ok_place_far T C CH, ok_line_holds T C CH, ok_law_cell_at T C CH, ok_law_next T C CH, ok_law_pen_of T C CH, ok_law_draw T C CH, ok_law_whole T C CH, ok_law_rule_by_k09 T C CH, ok_law_tiles_of T C CH, ok_law_digits_good T C CH, ok_law_due_of_k13 T C CH, ok_law_line_of T C CH, ok_law_odd_digits T C CH, ok_law_odd_of_k13 T C CH, ok_law_refused_k13 T C CH, ok_law_right_k13 T C CH, ok_law_k13 T C CH⟩
end
set_option maxHeartbeats 8000000 in
theorem all_mk {l : PySem.W.OpenLaw} {w : World} {K : PySem.W.Frag} {h : Heap} {mg : Str → Option Value} {fa : Addr} (X : K.In h) (G : h.Ns mainGlobals mg) (hfa : mg "law" = some (.ref fa))
    {f0 : Addr} {od0 an0 : Option Addr} {sl0 : Array (Option Value)} {oc0 kV0 dc0 pm0 cd0 ct0 : Value}
    (a0 : PySem.W.nsIn K mainGlobals "is_whole" = some (some (.ref f0)))
    (l0 : K.lookup f0 = some ⟨oc0, od0, .func (PySem.W.fnOf "is_whole" "is_whole" (defArgs s_is_whole) (defBody s_is_whole) (defScope s_is_whole) .none kV0 dc0 pm0 an0 cd0 ct0), sl0⟩)
    (c0 : PySem.W.codeIn K cd0 "is_whole" = true)
    (k0 : PySem.W.keepIn K (.ref f0) = true)
    {f1 : Addr} {od1 an1 : Option Addr} {sl1 : Array (Option Value)} {oc1 kV1 dc1 pm1 cd1 ct1 : Value}
    (a1 : PySem.W.nsIn K mainGlobals "is_tile" = some (some (.ref f1)))
    (l1 : K.lookup f1 = some ⟨oc1, od1, .func (PySem.W.fnOf "is_tile" "is_tile" (defArgs s_is_tile) (defBody s_is_tile) (defScope s_is_tile) .none kV1 dc1 pm1 an1 cd1 ct1), sl1⟩)
    (c1 : PySem.W.codeIn K cd1 "is_tile" = true)
    (k1 : PySem.W.keepIn K (.ref f1) = true)
    {f2 : Addr} {od2 an2 : Option Addr} {sl2 : Array (Option Value)} {oc2 kV2 dc2 pm2 cd2 ct2 : Value}
    (a2 : PySem.W.nsIn K mainGlobals "tiles_of" = some (some (.ref f2)))
    (l2 : K.lookup f2 = some ⟨oc2, od2, .func (PySem.W.fnOf "tiles_of" "tiles_of" (defArgs s_tiles_of) (defBody s_tiles_of) (defScope s_tiles_of) .none kV2 dc2 pm2 an2 cd2 ct2), sl2⟩)
    (c2 : PySem.W.codeIn K cd2 "tiles_of" = true)
    (k2 : PySem.W.keepIn K (.ref f2) = true)
    {f3 : Addr} {od3 an3 : Option Addr} {sl3 : Array (Option Value)} {oc3 kV3 dc3 pm3 cd3 ct3 : Value}
    (a3 : PySem.W.nsIn K mainGlobals "block_of" = some (some (.ref f3)))
    (l3 : K.lookup f3 = some ⟨oc3, od3, .func (PySem.W.fnOf "block_of" "block_of" (defArgs s_block_of) (defBody s_block_of) (defScope s_block_of) .none kV3 dc3 pm3 an3 cd3 ct3), sl3⟩)
    (c3 : PySem.W.codeIn K cd3 "block_of" = true)
    (k3 : PySem.W.keepIn K (.ref f3) = true)
    {f4 : Addr} {od4 an4 : Option Addr} {sl4 : Array (Option Value)} {oc4 kV4 dc4 pm4 cd4 ct4 : Value}
    (a4 : PySem.W.nsIn K mainGlobals "line_by" = some (some (.ref f4)))
    (l4 : K.lookup f4 = some ⟨oc4, od4, .func (PySem.W.fnOf "line_by" "line_by" (defArgs s_line_by) (defBody s_line_by) (defScope s_line_by) .none kV4 dc4 pm4 an4 cd4 ct4), sl4⟩)
    (c4 : PySem.W.codeIn K cd4 "line_by" = true)
    (k4 : PySem.W.keepIn K (.ref f4) = true)
    {f5 : Addr} {od5 an5 : Option Addr} {sl5 : Array (Option Value)} {oc5 kV5 dc5 pm5 cd5 ct5 : Value}
    (a5 : PySem.W.nsIn K mainGlobals "digits_good" = some (some (.ref f5)))
    (l5 : K.lookup f5 = some ⟨oc5, od5, .func (PySem.W.fnOf "digits_good" "digits_good" (defArgs s_digits_good) (defBody s_digits_good) (defScope s_digits_good) .none kV5 dc5 pm5 an5 cd5 ct5), sl5⟩)
    (c5 : PySem.W.codeIn K cd5 "digits_good" = true)
    (k5 : PySem.W.keepIn K (.ref f5) = true)
    {f6 : Addr} {od6 an6 : Option Addr} {sl6 : Array (Option Value)} {oc6 kV6 dc6 pm6 cd6 ct6 : Value}
    (a6 : PySem.W.nsIn K mainGlobals "place_far" = some (some (.ref f6)))
    (l6 : K.lookup f6 = some ⟨oc6, od6, .func (PySem.W.fnOf "place_far" "place_far" (defArgs s_place_far) (defBody s_place_far) (defScope s_place_far) .none kV6 dc6 pm6 an6 cd6 ct6), sl6⟩)
    (c6 : PySem.W.codeIn K cd6 "place_far" = true)
    (k6 : PySem.W.keepIn K (.ref f6) = true)
    {f7 : Addr} {od7 an7 : Option Addr} {sl7 : Array (Option Value)} {oc7 kV7 dc7 pm7 cd7 ct7 : Value}
    (a7 : PySem.W.nsIn K mainGlobals "line_holds" = some (some (.ref f7)))
    (l7 : K.lookup f7 = some ⟨oc7, od7, .func (PySem.W.fnOf "line_holds" "line_holds" (defArgs s_line_holds) (defBody s_line_holds) (defScope s_line_holds) .none kV7 dc7 pm7 an7 cd7 ct7), sl7⟩)
    (c7 : PySem.W.codeIn K cd7 "line_holds" = true)
    (k7 : PySem.W.keepIn K (.ref f7) = true)
    {f8 : Addr} {od8 an8 : Option Addr} {sl8 : Array (Option Value)} {oc8 kV8 dc8 pm8 cd8 ct8 : Value}
    (a8 : PySem.W.nsIn K mainGlobals "_law_cell_at" = some (some (.ref f8)))
    (l8 : K.lookup f8 = some ⟨oc8, od8, .func (PySem.W.fnOf "_law_cell_at" "_law_cell_at" (defArgs s_law_cell_at) (defBody s_law_cell_at) (defScope s_law_cell_at) .none kV8 dc8 pm8 an8 cd8 ct8), sl8⟩)
    (c8 : PySem.W.codeIn K cd8 "_law_cell_at" = true)
    (k8 : PySem.W.keepIn K (.ref f8) = true)
    {f9 : Addr} {od9 an9 : Option Addr} {sl9 : Array (Option Value)} {oc9 kV9 dc9 pm9 cd9 ct9 : Value}
    (a9 : PySem.W.nsIn K mainGlobals "_law_next" = some (some (.ref f9)))
    (l9 : K.lookup f9 = some ⟨oc9, od9, .func (PySem.W.fnOf "_law_next" "_law_next" (defArgs s_law_next) (defBody s_law_next) (defScope s_law_next) .none kV9 dc9 pm9 an9 cd9 ct9), sl9⟩)
    (c9 : PySem.W.codeIn K cd9 "_law_next" = true)
    (k9 : PySem.W.keepIn K (.ref f9) = true)
    {f10 : Addr} {od10 an10 : Option Addr} {sl10 : Array (Option Value)} {oc10 kV10 dc10 pm10 cd10 ct10 : Value}
    (a10 : PySem.W.nsIn K mainGlobals "_law_pen_of" = some (some (.ref f10)))
    (l10 : K.lookup f10 = some ⟨oc10, od10, .func (PySem.W.fnOf "_law_pen_of" "_law_pen_of" (defArgs s_law_pen_of) (defBody s_law_pen_of) (defScope s_law_pen_of) .none kV10 dc10 pm10 an10 cd10 ct10), sl10⟩)
    (c10 : PySem.W.codeIn K cd10 "_law_pen_of" = true)
    (k10 : PySem.W.keepIn K (.ref f10) = true)
    {f11 : Addr} {od11 an11 : Option Addr} {sl11 : Array (Option Value)} {oc11 kV11 dc11 pm11 cd11 ct11 : Value}
    (a11 : PySem.W.nsIn K mainGlobals "_law_draw" = some (some (.ref f11)))
    (l11 : K.lookup f11 = some ⟨oc11, od11, .func (PySem.W.fnOf "_law_draw" "_law_draw" (defArgs s_law_draw) (defBody s_law_draw) (defScope s_law_draw) .none kV11 dc11 pm11 an11 cd11 ct11), sl11⟩)
    (c11 : PySem.W.codeIn K cd11 "_law_draw" = true)
    (k11 : PySem.W.keepIn K (.ref f11) = true)
    {f12 : Addr} {od12 an12 : Option Addr} {sl12 : Array (Option Value)} {oc12 kV12 dc12 pm12 cd12 ct12 : Value}
    (a12 : PySem.W.nsIn K mainGlobals "_law_whole" = some (some (.ref f12)))
    (l12 : K.lookup f12 = some ⟨oc12, od12, .func (PySem.W.fnOf "_law_whole" "_law_whole" (defArgs s_law_whole) (defBody s_law_whole) (defScope s_law_whole) .none kV12 dc12 pm12 an12 cd12 ct12), sl12⟩)
    (c12 : PySem.W.codeIn K cd12 "_law_whole" = true)
    (k12 : PySem.W.keepIn K (.ref f12) = true)
    {f13 : Addr} {od13 an13 : Option Addr} {sl13 : Array (Option Value)} {oc13 kV13 dc13 pm13 cd13 ct13 : Value}
    (a13 : PySem.W.nsIn K mainGlobals "_law_kind_of" = some (some (.ref f13)))
    (l13 : K.lookup f13 = some ⟨oc13, od13, .func (PySem.W.fnOf "_law_kind_of" "_law_kind_of" (defArgs s_law_kind_of_k12) (defBody s_law_kind_of_k12) (defScope s_law_kind_of_k12) .none kV13 dc13 pm13 an13 cd13 ct13), sl13⟩)
    (c13 : PySem.W.codeIn K cd13 "_law_kind_of" = true)
    (k13 : PySem.W.keepIn K (.ref f13) = true)
    {f14 : Addr} {od14 an14 : Option Addr} {sl14 : Array (Option Value)} {oc14 kV14 dc14 pm14 cd14 ct14 : Value}
    (a14 : PySem.W.nsIn K mainGlobals "_law_rule_by" = some (some (.ref f14)))
    (l14 : K.lookup f14 = some ⟨oc14, od14, .func (PySem.W.fnOf "_law_rule_by" "_law_rule_by" (defArgs s_law_rule_by_k09) (defBody s_law_rule_by_k09) (defScope s_law_rule_by_k09) .none kV14 dc14 pm14 an14 cd14 ct14), sl14⟩)
    (c14 : PySem.W.codeIn K cd14 "_law_rule_by" = true)
    (k14 : PySem.W.keepIn K (.ref f14) = true)
    {f15 : Addr} {od15 an15 : Option Addr} {sl15 : Array (Option Value)} {oc15 kV15 dc15 pm15 cd15 ct15 : Value}
    (a15 : PySem.W.nsIn K mainGlobals "_law_tiles_of" = some (some (.ref f15)))
    (l15 : K.lookup f15 = some ⟨oc15, od15, .func (PySem.W.fnOf "_law_tiles_of" "_law_tiles_of" (defArgs s_law_tiles_of) (defBody s_law_tiles_of) (defScope s_law_tiles_of) .none kV15 dc15 pm15 an15 cd15 ct15), sl15⟩)
    (c15 : PySem.W.codeIn K cd15 "_law_tiles_of" = true)
    (k15 : PySem.W.keepIn K (.ref f15) = true)
    {f16 : Addr} {od16 an16 : Option Addr} {sl16 : Array (Option Value)} {oc16 kV16 dc16 pm16 cd16 ct16 : Value}
    (a16 : PySem.W.nsIn K mainGlobals "_law_digits_good" = some (some (.ref f16)))
    (l16 : K.lookup f16 = some ⟨oc16, od16, .func (PySem.W.fnOf "_law_digits_good" "_law_digits_good" (defArgs s_law_digits_good) (defBody s_law_digits_good) (defScope s_law_digits_good) .none kV16 dc16 pm16 an16 cd16 ct16), sl16⟩)
    (c16 : PySem.W.codeIn K cd16 "_law_digits_good" = true)
    (k16 : PySem.W.keepIn K (.ref f16) = true)
    {f17 : Addr} {od17 an17 : Option Addr} {sl17 : Array (Option Value)} {oc17 kV17 dc17 pm17 cd17 ct17 : Value}
    (a17 : PySem.W.nsIn K mainGlobals "_law_due_of" = some (some (.ref f17)))
    (l17 : K.lookup f17 = some ⟨oc17, od17, .func (PySem.W.fnOf "_law_due_of" "_law_due_of" (defArgs s_law_due_of_k13) (defBody s_law_due_of_k13) (defScope s_law_due_of_k13) .none kV17 dc17 pm17 an17 cd17 ct17), sl17⟩)
    (c17 : PySem.W.codeIn K cd17 "_law_due_of" = true)
    (k17 : PySem.W.keepIn K (.ref f17) = true)
    {f18 : Addr} {od18 an18 : Option Addr} {sl18 : Array (Option Value)} {oc18 kV18 dc18 pm18 cd18 ct18 : Value}
    (a18 : PySem.W.nsIn K mainGlobals "_law_line_of" = some (some (.ref f18)))
    (l18 : K.lookup f18 = some ⟨oc18, od18, .func (PySem.W.fnOf "_law_line_of" "_law_line_of" (defArgs s_law_line_of) (defBody s_law_line_of) (defScope s_law_line_of) .none kV18 dc18 pm18 an18 cd18 ct18), sl18⟩)
    (c18 : PySem.W.codeIn K cd18 "_law_line_of" = true)
    (k18 : PySem.W.keepIn K (.ref f18) = true)
    {f19 : Addr} {od19 an19 : Option Addr} {sl19 : Array (Option Value)} {oc19 kV19 dc19 pm19 cd19 ct19 : Value}
    (a19 : PySem.W.nsIn K mainGlobals "_law_odd_digits" = some (some (.ref f19)))
    (l19 : K.lookup f19 = some ⟨oc19, od19, .func (PySem.W.fnOf "_law_odd_digits" "_law_odd_digits" (defArgs s_law_odd_digits) (defBody s_law_odd_digits) (defScope s_law_odd_digits) .none kV19 dc19 pm19 an19 cd19 ct19), sl19⟩)
    (c19 : PySem.W.codeIn K cd19 "_law_odd_digits" = true)
    (k19 : PySem.W.keepIn K (.ref f19) = true)
    {f20 : Addr} {od20 an20 : Option Addr} {sl20 : Array (Option Value)} {oc20 kV20 dc20 pm20 cd20 ct20 : Value}
    (a20 : PySem.W.nsIn K mainGlobals "_law_odd_of" = some (some (.ref f20)))
    (l20 : K.lookup f20 = some ⟨oc20, od20, .func (PySem.W.fnOf "_law_odd_of" "_law_odd_of" (defArgs s_law_odd_of_k13) (defBody s_law_odd_of_k13) (defScope s_law_odd_of_k13) .none kV20 dc20 pm20 an20 cd20 ct20), sl20⟩)
    (c20 : PySem.W.codeIn K cd20 "_law_odd_of" = true)
    (k20 : PySem.W.keepIn K (.ref f20) = true)
    {f21 : Addr} {od21 an21 : Option Addr} {sl21 : Array (Option Value)} {oc21 kV21 dc21 pm21 cd21 ct21 : Value}
    (a21 : PySem.W.nsIn K mainGlobals "_law_refused" = some (some (.ref f21)))
    (l21 : K.lookup f21 = some ⟨oc21, od21, .func (PySem.W.fnOf "_law_refused" "_law_refused" (defArgs s_law_refused_k13) (defBody s_law_refused_k13) (defScope s_law_refused_k13) .none kV21 dc21 pm21 an21 cd21 ct21), sl21⟩)
    (c21 : PySem.W.codeIn K cd21 "_law_refused" = true)
    (k21 : PySem.W.keepIn K (.ref f21) = true)
    {f22 : Addr} {od22 an22 : Option Addr} {sl22 : Array (Option Value)} {oc22 kV22 dc22 pm22 cd22 ct22 : Value}
    (a22 : PySem.W.nsIn K mainGlobals "_law_right" = some (some (.ref f22)))
    (l22 : K.lookup f22 = some ⟨oc22, od22, .func (PySem.W.fnOf "_law_right" "_law_right" (defArgs s_law_right_k13) (defBody s_law_right_k13) (defScope s_law_right_k13) .none kV22 dc22 pm22 an22 cd22 ct22), sl22⟩)
    (c22 : PySem.W.codeIn K cd22 "_law_right" = true)
    (k22 : PySem.W.keepIn K (.ref f22) = true)
    {f23 : Addr} {od23 an23 : Option Addr} {sl23 : Array (Option Value)} {oc23 kV23 dc23 pm23 cd23 ct23 : Value}
    (a23 : PySem.W.nsIn K mainGlobals "law" = some (some (.ref f23)))
    (l23 : K.lookup f23 = some ⟨oc23, od23, .func (PySem.W.fnOf "law" "law" (defArgs s_law_k13) (defBody s_law_k13) (defScope s_law_k13) .none kV23 dc23 pm23 an23 cd23 ct23), sl23⟩)
    (c23 : PySem.W.codeIn K cd23 "law" = true)
    (k23 : PySem.W.keepIn K (.ref f23) = true)
    (z_ValueError : PySem.W.nsIn K mainGlobals "ValueError" = some none)
    (z_all : PySem.W.nsIn K mainGlobals "all" = some none)
    (z_bool : PySem.W.nsIn K mainGlobals "bool" = some none)
    (z_dict : PySem.W.nsIn K mainGlobals "dict" = some none)
    (z_enumerate : PySem.W.nsIn K mainGlobals "enumerate" = some none)
    (z_int : PySem.W.nsIn K mainGlobals "int" = some none)
    (z_isinstance : PySem.W.nsIn K mainGlobals "isinstance" = some none)
    (z_len : PySem.W.nsIn K mainGlobals "len" = some none)
    (z_list : PySem.W.nsIn K mainGlobals "list" = some none)
    (z_max : PySem.W.nsIn K mainGlobals "max" = some none)
    (z_range : PySem.W.nsIn K mainGlobals "range" = some none)
    (z_str : PySem.W.nsIn K mainGlobals "str" = some none)
    (z_tuple : PySem.W.nsIn K mainGlobals "tuple" = some none)
    {t0 : Tok}
    (x0 : PySem.W.nsIn K mainGlobals "LETTERS" = some (some (.str "abcdefghijklmnopqrstuvwxyz" t0)))
    {t1 : Tok}
    (x1 : PySem.W.nsIn K mainGlobals "MOST_GROWINGS" = some (some (.int 60 t1)))
    {C0 : Addr}
    (cg_NoFloor : PySem.W.nsIn K mainGlobals "NoFloor" = some (some (.ref C0)))
    {C1 : Addr}
    (cg_NoPlace : PySem.W.nsIn K mainGlobals "NoPlace" = some (some (.ref C1)))
    {C2 : Addr}
    (cg_NoNumber : PySem.W.nsIn K mainGlobals "NoNumber" = some (some (.ref C2)))
    {C3 : Addr}
    (cg_NoRow : PySem.W.nsIn K mainGlobals "NoRow" = some (some (.ref C3)))
    {C4 : Addr}
    (cg_Unlike : PySem.W.nsIn K mainGlobals "Unlike" = some (some (.ref C4)))
    {C5 : Addr}
    (cg_NoTile : PySem.W.nsIn K mainGlobals "NoTile" = some (some (.ref C5)))
    {C6 : Addr}
    (cg_NoRule : PySem.W.nsIn K mainGlobals "NoRule" = some (some (.ref C6)))
    {C7 : Addr}
    (cg_NoText : PySem.W.nsIn K mainGlobals "NoText" = some (some (.ref C7)))
    {C8 : Addr}
    (cg_TooGreat : PySem.W.nsIn K mainGlobals "TooGreat" = some (some (.ref C8)))
    {C9 : Addr}
    (cg_FloorError : PySem.W.nsIn K mainGlobals "FloorError" = some (some (.ref C9)))
    (ai_NoFloor : PySem.W.isClsIn K C0 = true)
    (at_NoFloor : PySem.W.typeIn K (.ref C0) = some (.type "type"))
    (as_NoFloor : PySem.W.subIn K (.ref C0) (.ref C0) = some true)
    (ai_NoPlace : PySem.W.isClsIn K C1 = true)
    (at_NoPlace : PySem.W.typeIn K (.ref C1) = some (.type "type"))
    (as_NoPlace : PySem.W.subIn K (.ref C1) (.ref C1) = some true)
    (ai_NoNumber : PySem.W.isClsIn K C2 = true)
    (at_NoNumber : PySem.W.typeIn K (.ref C2) = some (.type "type"))
    (as_NoNumber : PySem.W.subIn K (.ref C2) (.ref C2) = some true)
    (ai_NoRow : PySem.W.isClsIn K C3 = true)
    (at_NoRow : PySem.W.typeIn K (.ref C3) = some (.type "type"))
    (as_NoRow : PySem.W.subIn K (.ref C3) (.ref C3) = some true)
    (ai_Unlike : PySem.W.isClsIn K C4 = true)
    (at_Unlike : PySem.W.typeIn K (.ref C4) = some (.type "type"))
    (as_Unlike : PySem.W.subIn K (.ref C4) (.ref C4) = some true)
    (ai_NoTile : PySem.W.isClsIn K C5 = true)
    (at_NoTile : PySem.W.typeIn K (.ref C5) = some (.type "type"))
    (as_NoTile : PySem.W.subIn K (.ref C5) (.ref C5) = some true)
    (ai_NoRule : PySem.W.isClsIn K C6 = true)
    (at_NoRule : PySem.W.typeIn K (.ref C6) = some (.type "type"))
    (as_NoRule : PySem.W.subIn K (.ref C6) (.ref C6) = some true)
    (ai_NoText : PySem.W.isClsIn K C7 = true)
    (at_NoText : PySem.W.typeIn K (.ref C7) = some (.type "type"))
    (as_NoText : PySem.W.subIn K (.ref C7) (.ref C7) = some true)
    (ai_TooGreat : PySem.W.isClsIn K C8 = true)
    (at_TooGreat : PySem.W.typeIn K (.ref C8) = some (.type "type"))
    (as_TooGreat : PySem.W.subIn K (.ref C8) (.ref C8) = some true)
    (oc1 : PySem.W.specialIn K (.builtin "object.__class__") "__get__" = some (some (.builtin "getset_descriptor.__get__")))
    (oc2 : PySem.W.takesIn K (.builtin "object.__class__") = some true)
    (e1_NoPlace : PySem.W.findIn K (.ref C1) "__getattribute__" = some (some (.builtin "BaseException.__getattribute__")))
    (e2_NoPlace : PySem.W.findIn K (.ref C1) "__getattr__" = some none)
    (e3_NoPlace : PySem.W.subIn K (.ref C1) (.type "BaseException") = some true)
    (e4_NoPlace : PySem.W.hasDictIn K C1 = true)
    (e5_NoPlace : PySem.W.findIn K (.ref C1) "__class__" = some (some (.builtin "object.__class__")))
    (e6_NoPlace : PySem.W.mroIn K C1 (.type "object") = some true)
    (e7_NoPlace : PySem.W.keepIn K (.ref C1) = true)
    (e8_NoPlace : PySem.W.typeIn K (.ref C1) = some (.type "type"))
    (r_NoPlace : PySem.W.excIn K C1 veL "ValueError.__new__" = true)
    (e1_NoTile : PySem.W.findIn K (.ref C5) "__getattribute__" = some (some (.builtin "BaseException.__getattribute__")))
    (e2_NoTile : PySem.W.findIn K (.ref C5) "__getattr__" = some none)
    (e3_NoTile : PySem.W.subIn K (.ref C5) (.type "BaseException") = some true)
    (e4_NoTile : PySem.W.hasDictIn K C5 = true)
    (e5_NoTile : PySem.W.findIn K (.ref C5) "__class__" = some (some (.builtin "object.__class__")))
    (e6_NoTile : PySem.W.mroIn K C5 (.type "object") = some true)
    (e7_NoTile : PySem.W.keepIn K (.ref C5) = true)
    (e8_NoTile : PySem.W.typeIn K (.ref C5) = some (.type "type"))
    {nm_NoTile q_NoTile : Str} {N_NoTile : Addr} {bs_NoTile bm_NoTile : List Value} {sn_NoTile : List Str} {su_NoTile : List Value} {ab_NoTile : Bool} {co_NoTile : Option Bool} {dd_NoTile : Option Addr} {m0_NoTile m1_NoTile m2_NoTile m3_NoTile m5_NoTile : Option Value}
    (xl_NoTile : K.lookup C5 = some (excClassObj nm_NoTile q_NoTile C5 N_NoTile bs_NoTile bm_NoTile true sn_NoTile su_NoTile ab_NoTile co_NoTile dd_NoTile m0_NoTile m1_NoTile m2_NoTile m3_NoTile m5_NoTile "ValueError.__new__"))
    (xr_NoTile : PySem.HandSPX.refsVE bm_NoTile = true)
    (xs_NoTile : PySem.W.findIn K (.ref C5) "__setattr__" = some (some (.builtin "object.__setattr__")))
    {I5 : Addr} {Iod5 Ian5 : Option Addr} {Isl5 : Array (Option Value)} {Ioc5 IkV5 Idc5 Ipm5 Icd5 Ict5 : Value}
    (xi_NoTile : PySem.W.findIn K (.ref C5) "__init__" = some (some (.ref I5)))
    (xt_NoTile : PySem.W.typeIn K (.ref I5) = some (.type "function"))
    (xn_NoTile : PySem.W.findIn K (.ref C5) "tile" = some none)
    (xf_NoTile : K.lookup I5 = some ⟨Ioc5, Iod5, .func (PySem.W.fnOf "__init__" "NoTile.__init__" (defArgs s_I_NoTile) (defBody s_I_NoTile) (defScope s_I_NoTile) .none IkV5 Idc5 Ipm5 Ian5 Icd5 Ict5), Isl5⟩)
    (xc_NoTile : PySem.W.codeIn K Icd5 "NoTile.__init__" = true)
    (xk_NoTile : PySem.W.keepIn K (.ref I5) = true)
    (p_NoPlace_NoFloor : PySem.W.subIn K (.ref C1) (.ref C0) = some false)
    (p_NoPlace_NoPlace : PySem.W.subIn K (.ref C1) (.ref C1) = some true)
    (p_NoPlace_NoNumber : PySem.W.subIn K (.ref C1) (.ref C2) = some false)
    (p_NoPlace_NoRow : PySem.W.subIn K (.ref C1) (.ref C3) = some false)
    (p_NoPlace_Unlike : PySem.W.subIn K (.ref C1) (.ref C4) = some false)
    (p_NoPlace_NoTile : PySem.W.subIn K (.ref C1) (.ref C5) = some false)
    (p_NoPlace_NoRule : PySem.W.subIn K (.ref C1) (.ref C6) = some false)
    (p_NoPlace_NoText : PySem.W.subIn K (.ref C1) (.ref C7) = some false)
    (p_NoPlace_TooGreat : PySem.W.subIn K (.ref C1) (.ref C8) = some false)
    (p_NoPlace_FloorError : PySem.W.subIn K (.ref C1) (.ref C9) = some true)
    (p_NoTile_NoFloor : PySem.W.subIn K (.ref C5) (.ref C0) = some false)
    (p_NoTile_NoPlace : PySem.W.subIn K (.ref C5) (.ref C1) = some false)
    (p_NoTile_NoNumber : PySem.W.subIn K (.ref C5) (.ref C2) = some false)
    (p_NoTile_NoRow : PySem.W.subIn K (.ref C5) (.ref C3) = some false)
    (p_NoTile_Unlike : PySem.W.subIn K (.ref C5) (.ref C4) = some false)
    (p_NoTile_NoTile : PySem.W.subIn K (.ref C5) (.ref C5) = some true)
    (p_NoTile_NoRule : PySem.W.subIn K (.ref C5) (.ref C6) = some false)
    (p_NoTile_NoText : PySem.W.subIn K (.ref C5) (.ref C7) = some false)
    (p_NoTile_TooGreat : PySem.W.subIn K (.ref C5) (.ref C8) = some false)
    (p_NoTile_FloorError : PySem.W.subIn K (.ref C5) (.ref C9) = some true)
    (v_NoPlace : PySem.W.subIn K (.ref C1) (.type "ValueError") = some true)
    (v_NoTile : PySem.W.subIn K (.ref C5) (.type "ValueError") = some true)
    (kb_FloorError : PySem.W.subIn K (.ref C9) (.type "BaseException") = some true)
    (kd_FloorError : PySem.W.hasDictIn K C9 = true)
    (kt_FloorError : PySem.W.typeIn K (.ref C9) = some (.type "type"))
    : ∃ fd : FuncData, (∀ (s : Shared) (v : Value), BindsTo s fd ⟨[v], []⟩ [("script", v)]) ∧ ∀ base : Heap, K.In base → base.Ns mainGlobals mg → FnOk l.prog w K mg base (L2N.CX l.prog w) 42 fa fd ["script"] (fun vs H Q E => ∀ ca, spD K (cl ca) 1 (run prog 40 174) vs H Q E) := by
  have e := hfa.symm.trans (PySem.W.mg_of X G a23)
  cases e
  have F0 := fun_mk (st := s_is_whole) l0 c0 k0
  have b0 := F0.binds (ps := ["thing"]) fun _ _ _ _ _ _ us hl => match us, hl with | [_], _ => rfl
  have F1 := fun_mk (st := s_is_tile) l1 c1 k1
  have b1 := F1.binds (ps := ["thing"]) fun _ _ _ _ _ _ us hl => match us, hl with | [_], _ => rfl
  have F2 := fun_mk (st := s_tiles_of) l2 c2 k2
  have b2 := F2.binds (ps := ["rule"]) fun _ _ _ _ _ _ us hl => match us, hl with | [_], _ => rfl
  have F3 := fun_mk (st := s_block_of) l3 c3 k3
  have b3 := F3.binds (ps := ["rule", "tile"]) fun _ _ _ _ _ _ us hl => match us, hl with | [_, _], _ => rfl
  have F4 := fun_mk (st := s_line_by) l4 c4 k4
  have b4 := F4.binds (ps := ["rule", "tile", "digits"]) fun _ _ _ _ _ _ us hl => match us, hl with | [_, _, _], _ => rfl
  have F5 := fun_mk (st := s_digits_good) l5 c5 k5
  have b5 := F5.binds (ps := ["rule", "thing"]) fun _ _ _ _ _ _ us hl => match us, hl with | [_, _], _ => rfl
  have F6 := fun_mk (st := s_place_far) l6 c6 k6
  have b6 := F6.binds (ps := ["rule", "digits"]) fun _ _ _ _ _ _ us hl => match us, hl with | [_, _], _ => rfl
  have F7 := fun_mk (st := s_line_holds) l7 c7 k7
  have b7 := F7.binds (ps := ["rule", "thing"]) fun _ _ _ _ _ _ us hl => match us, hl with | [_, _], _ => rfl
  have F8 := fun_mk (st := s_law_cell_at) l8 c8 k8
  have b8 := F8.binds (ps := ["script", "k"]) fun _ _ _ _ _ _ us hl => match us, hl with | [_, _], _ => rfl
  have F9 := fun_mk (st := s_law_next) l9 c9 k9
  have b9 := F9.binds (ps := ["seed"]) fun _ _ _ _ _ _ us hl => match us, hl with | [_], _ => rfl
  have F10 := fun_mk (st := s_law_pen_of) l10 c10 k10
  have b10 := F10.binds (ps := ["cell"]) fun _ _ _ _ _ _ us hl => match us, hl with | [_], _ => rfl
  have F11 := fun_mk (st := s_law_draw) l11 c11 k11
  have b11 := F11.binds (ps := ["pen", "many"]) fun _ _ _ _ _ _ us hl => match us, hl with | [_, _], _ => rfl
  have F12 := fun_mk (st := s_law_whole) l12 c12 k12
  have b12 := F12.binds (ps := ["found"]) fun _ _ _ _ _ _ us hl => match us, hl with | [_], _ => rfl
  have F13 := fun_mk (st := s_law_kind_of_k12) l13 c13 k13
  have b13 := F13.binds (ps := ["e"]) fun _ _ _ _ _ _ us hl => match us, hl with | [_], _ => rfl
  have F14 := fun_mk (st := s_law_rule_by_k09) l14 c14 k14
  have b14 := F14.binds (ps := ["pen", "most"]) fun _ _ _ _ _ _ us hl => match us, hl with | [_, _], _ => rfl
  have F15 := fun_mk (st := s_law_tiles_of) l15 c15 k15
  have b15 := F15.binds (ps := ["rule"]) fun _ _ _ _ _ _ us hl => match us, hl with | [_], _ => rfl
  have F16 := fun_mk (st := s_law_digits_good) l16 c16 k16
  have b16 := F16.binds (ps := ["rule", "thing"]) fun _ _ _ _ _ _ us hl => match us, hl with | [_, _], _ => rfl
  have F17 := fun_mk (st := s_law_due_of_k13) l17 c17 k17
  have b17 := F17.binds (ps := ["rule", "thing"]) fun _ _ _ _ _ _ us hl => match us, hl with | [_, _], _ => rfl
  have F18 := fun_mk (st := s_law_line_of) l18 c18 k18
  have b18 := F18.binds (ps := ["pen", "rule"]) fun _ _ _ _ _ _ us hl => match us, hl with | [_, _], _ => rfl
  have F19 := fun_mk (st := s_law_odd_digits) l19 c19 k19
  have b19 := F19.binds (ps := ["pen", "rule", "digits"]) fun _ _ _ _ _ _ us hl => match us, hl with | [_, _, _], _ => rfl
  have F20 := fun_mk (st := s_law_odd_of_k13) l20 c20 k20
  have b20 := F20.binds (ps := ["pen", "rule", "line"]) fun _ _ _ _ _ _ us hl => match us, hl with | [_, _, _], _ => rfl
  have F21 := fun_mk (st := s_law_refused_k13) l21 c21 k21
  have b21 := F21.binds (ps := ["rule", "thing"]) fun _ _ _ _ _ _ us hl => match us, hl with | [_, _], _ => rfl
  have F22 := fun_mk (st := s_law_right_k13) l22 c22 k22
  have b22 := F22.binds (ps := ["rule", "thing"]) fun _ _ _ _ _ _ us hl => match us, hl with | [_, _], _ => rfl
  have F23 := fun_mk (st := s_law_k13) l23 c23 k23
  have b23 := F23.binds (ps := ["script"]) fun _ _ _ _ _ _ us hl => match us, hl with | [_], _ => rfl
  have FI5 := fun_mk (st := s_I_NoTile) xf_NoTile xc_NoTile xk_NoTile
  have bI5 := FI5.binds (ps := ["self", "tile"]) fun _ _ _ _ _ _ us hl => match us, hl with | [_, _], _ => rfl
  have T : Tx K mg (fun i => [f0, f1, f2, f3, f4, f5, f6, f7, f8, f9, f10, f11, f12, f13, f14, f15, f16, f17, f18, f19, f20, f21, f22, fa].getD i 0) (fun i => [PySem.W.fnOf "is_whole" "is_whole" (defArgs s_is_whole) (defBody s_is_whole) (defScope s_is_whole) .none kV0 dc0 pm0 an0 cd0 ct0, PySem.W.fnOf "is_tile" "is_tile" (defArgs s_is_tile) (defBody s_is_tile) (defScope s_is_tile) .none kV1 dc1 pm1 an1 cd1 ct1, PySem.W.fnOf "tiles_of" "tiles_of" (defArgs s_tiles_of) (defBody s_tiles_of) (defScope s_tiles_of) .none kV2 dc2 pm2 an2 cd2 ct2, PySem.W.fnOf "block_of" "block_of" (defArgs s_block_of) (defBody s_block_of) (defScope s_block_of) .none kV3 dc3 pm3 an3 cd3 ct3, PySem.W.fnOf "line_by" "line_by" (defArgs s_line_by) (defBody s_line_by) (defScope s_line_by) .none kV4 dc4 pm4 an4 cd4 ct4, PySem.W.fnOf "digits_good" "digits_good" (defArgs s_digits_good) (defBody s_digits_good) (defScope s_digits_good) .none kV5 dc5 pm5 an5 cd5 ct5, PySem.W.fnOf "place_far" "place_far" (defArgs s_place_far) (defBody s_place_far) (defScope s_place_far) .none kV6 dc6 pm6 an6 cd6 ct6, PySem.W.fnOf "line_holds" "line_holds" (defArgs s_line_holds) (defBody s_line_holds) (defScope s_line_holds) .none kV7 dc7 pm7 an7 cd7 ct7, PySem.W.fnOf "_law_cell_at" "_law_cell_at" (defArgs s_law_cell_at) (defBody s_law_cell_at) (defScope s_law_cell_at) .none kV8 dc8 pm8 an8 cd8 ct8, PySem.W.fnOf "_law_next" "_law_next" (defArgs s_law_next) (defBody s_law_next) (defScope s_law_next) .none kV9 dc9 pm9 an9 cd9 ct9, PySem.W.fnOf "_law_pen_of" "_law_pen_of" (defArgs s_law_pen_of) (defBody s_law_pen_of) (defScope s_law_pen_of) .none kV10 dc10 pm10 an10 cd10 ct10, PySem.W.fnOf "_law_draw" "_law_draw" (defArgs s_law_draw) (defBody s_law_draw) (defScope s_law_draw) .none kV11 dc11 pm11 an11 cd11 ct11, PySem.W.fnOf "_law_whole" "_law_whole" (defArgs s_law_whole) (defBody s_law_whole) (defScope s_law_whole) .none kV12 dc12 pm12 an12 cd12 ct12, PySem.W.fnOf "_law_kind_of" "_law_kind_of" (defArgs s_law_kind_of_k12) (defBody s_law_kind_of_k12) (defScope s_law_kind_of_k12) .none kV13 dc13 pm13 an13 cd13 ct13, PySem.W.fnOf "_law_rule_by" "_law_rule_by" (defArgs s_law_rule_by_k09) (defBody s_law_rule_by_k09) (defScope s_law_rule_by_k09) .none kV14 dc14 pm14 an14 cd14 ct14, PySem.W.fnOf "_law_tiles_of" "_law_tiles_of" (defArgs s_law_tiles_of) (defBody s_law_tiles_of) (defScope s_law_tiles_of) .none kV15 dc15 pm15 an15 cd15 ct15, PySem.W.fnOf "_law_digits_good" "_law_digits_good" (defArgs s_law_digits_good) (defBody s_law_digits_good) (defScope s_law_digits_good) .none kV16 dc16 pm16 an16 cd16 ct16, PySem.W.fnOf "_law_due_of" "_law_due_of" (defArgs s_law_due_of_k13) (defBody s_law_due_of_k13) (defScope s_law_due_of_k13) .none kV17 dc17 pm17 an17 cd17 ct17, PySem.W.fnOf "_law_line_of" "_law_line_of" (defArgs s_law_line_of) (defBody s_law_line_of) (defScope s_law_line_of) .none kV18 dc18 pm18 an18 cd18 ct18, PySem.W.fnOf "_law_odd_digits" "_law_odd_digits" (defArgs s_law_odd_digits) (defBody s_law_odd_digits) (defScope s_law_odd_digits) .none kV19 dc19 pm19 an19 cd19 ct19, PySem.W.fnOf "_law_odd_of" "_law_odd_of" (defArgs s_law_odd_of_k13) (defBody s_law_odd_of_k13) (defScope s_law_odd_of_k13) .none kV20 dc20 pm20 an20 cd20 ct20, PySem.W.fnOf "_law_refused" "_law_refused" (defArgs s_law_refused_k13) (defBody s_law_refused_k13) (defScope s_law_refused_k13) .none kV21 dc21 pm21 an21 cd21 ct21, PySem.W.fnOf "_law_right" "_law_right" (defArgs s_law_right_k13) (defBody s_law_right_k13) (defScope s_law_right_k13) .none kV22 dc22 pm22 an22 cd22 ct22, PySem.W.fnOf "law" "law" (defArgs s_law_k13) (defBody s_law_k13) (defScope s_law_k13) .none kV23 dc23 pm23 an23 cd23 ct23].getD i default) (fun i => [t0, t1].getD i 0) (fun i => [C0, C1, C2, C3, C4, C5, C6, C7, C8, C9].getD i 0) (fun i => [0, 0, 0, 0, 0, I5, 0, 0, 0, 0].getD i 0) (fun i => [default, default, default, default, default, PySem.W.fnOf "__init__" "NoTile.__init__" (defArgs s_I_NoTile) (defBody s_I_NoTile) (defScope s_I_NoTile) .none IkV5 Idc5 Ipm5 Ian5 Icd5 Ict5, default, default, default, default].getD i default) :=
    ⟨F0, PySem.W.mg_of X G a0, b0, F1, PySem.W.mg_of X G a1, b1, F2, PySem.W.mg_of X G a2, b2, F3, PySem.W.mg_of X G a3, b3, F4, PySem.W.mg_of X G a4, b4, F5, PySem.W.mg_of X G a5, b5, F6, PySem.W.mg_of X G a6, b6, F7, PySem.W.mg_of X G a7, b7, F8, PySem.W.mg_of X G a8, b8, F9, PySem.W.mg_of X G a9, b9, F10, PySem.W.mg_of X G a10, b10, F11, PySem.W.mg_of X G a11, b11, F12, PySem.W.mg_of X G a12, b12, F13, PySem.W.mg_of X G a13, b13, F14, PySem.W.mg_of X G a14, b14, F15, PySem.W.mg_of X G a15, b15, F16, PySem.W.mg_of X G a16, b16, F17, PySem.W.mg_of X G a17, b17, F18, PySem.W.mg_of X G a18, b18, F19, PySem.W.mg_of X G a19, b19, F20, PySem.W.mg_of X G a20, b20, F21, PySem.W.mg_of X G a21, b21, F22, PySem.W.mg_of X G a22, b22, F23, PySem.W.mg_of X G a23, b23, PySem.W.mg_none_of X G z_ValueError, PySem.W.mg_none_of X G z_all, PySem.W.mg_none_of X G z_bool, PySem.W.mg_none_of X G z_dict, PySem.W.mg_none_of X G z_enumerate, PySem.W.mg_none_of X G z_int, PySem.W.mg_none_of X G z_isinstance, PySem.W.mg_none_of X G z_len, PySem.W.mg_none_of X G z_list, PySem.W.mg_none_of X G z_max, PySem.W.mg_none_of X G z_range, PySem.W.mg_none_of X G z_str, PySem.W.mg_none_of X G z_tuple, PySem.W.mg_of X G x0, PySem.W.mg_of X G x1, PySem.W.mg_of X G cg_NoFloor, PySem.W.mg_of X G cg_NoPlace, PySem.W.mg_of X G cg_NoNumber, PySem.W.mg_of X G cg_NoRow, PySem.W.mg_of X G cg_Unlike, PySem.W.mg_of X G cg_NoTile, PySem.W.mg_of X G cg_NoRule, PySem.W.mg_of X G cg_NoText, PySem.W.mg_of X G cg_TooGreat, PySem.W.mg_of X G cg_FloorError, ⟨ai_NoFloor, at_NoFloor, as_NoFloor⟩, ⟨ai_NoPlace, at_NoPlace, as_NoPlace⟩, ⟨ai_NoNumber, at_NoNumber, as_NoNumber⟩, ⟨ai_NoRow, at_NoRow, as_NoRow⟩, ⟨ai_Unlike, at_Unlike, as_Unlike⟩, ⟨ai_NoTile, at_NoTile, as_NoTile⟩, ⟨ai_NoRule, at_NoRule, as_NoRule⟩, ⟨ai_NoText, at_NoText, as_NoText⟩, ⟨ai_TooGreat, at_TooGreat, as_TooGreat⟩, ⟨e1_NoPlace, e2_NoPlace, e3_NoPlace, e4_NoPlace, e5_NoPlace, oc1, oc2, e6_NoPlace⟩, ⟨PySem.W.mg_of X G cg_NoPlace, r_NoPlace, e7_NoPlace, e3_NoPlace, e8_NoPlace⟩, ⟨e1_NoTile, e2_NoTile, e3_NoTile, e4_NoTile, e5_NoTile, oc1, oc2, e6_NoTile⟩, ⟨⟨_, _, _, _, _, _, _, _, _, _, _, _, _, _, _, xl_NoTile, xr_NoTile⟩, xs_NoTile, e3_NoTile, e8_NoTile, e7_NoTile⟩, xi_NoTile, xt_NoTile, xn_NoTile, FI5, bI5, p_NoPlace_NoFloor, p_NoPlace_NoPlace, p_NoPlace_NoNumber, p_NoPlace_NoRow, p_NoPlace_Unlike, p_NoPlace_NoTile, p_NoPlace_NoRule, p_NoPlace_NoText, p_NoPlace_TooGreat, p_NoPlace_FloorError, p_NoTile_NoFloor, p_NoTile_NoPlace, p_NoTile_NoNumber, p_NoTile_NoRow, p_NoTile_Unlike, p_NoTile_NoTile, p_NoTile_NoRule, p_NoTile_NoText, p_NoTile_TooGreat, p_NoTile_FloorError, v_NoPlace, v_NoTile, kb_FloorError, kd_FloorError, kt_FloorError⟩
  exact ⟨PySem.W.fnOf "law" "law" (defArgs s_law_k13) (defBody s_law_k13) (defScope s_law_k13) .none kV23 dc23 pm23 an23 cd23 ct23, fun s v => .of_eq rfl, fun base _ _ => fn_weak (all_ok T 40).c_law_k13 fun vs H Q E q => q _⟩
end k13
end DL

open PySem PySem.W PyProof.Rows
set_option maxRecDepth 100000 in
set_option maxHeartbeats 0 in
theorem PySem.Challenge.cw_tilegrow_k13_lines_by_anybody_holds : PySem.Challenge.rw_tilegrow_k13_lines_by_anybody.Holds := by
  w_on; o_law; k_head; (case hw => w_witness2)
  k_fill
  refine L2.walk_of (l := PySem.Challenge.rw_tilegrow_k13_lines_by_anybody) (n := 63) (k := 42) (x := "script") (CX := fun w => L2N.CX PySem.Challenge.rw_tilegrow_k13_lines_by_anybody.prog w) (sp := fun w vs H Q E => ∀ ca, DL.spD _ (DL.k13.cl ca) 1 (DL.run DL.k13.prog 40 174) vs H Q E) rfl (by decide) rfl ⟨rfl, by decide, by decide⟩ (fun w h Y => PySem.W.kIn_of Y) ?F (fun w H a ns hl _ hS ca => DL.sp_law hS (DL.k13.main ns hl)) (fun w H s e s' h => DL.cx_none h)
  case F =>
    intro w mg fa h KX G hmg
    refine' DL.k13.all_mk KX G hmg ?a0 ?l0 ?c0 ?k0 ?a1 ?l1 ?c1 ?k1 ?a2 ?l2 ?c2 ?k2 ?a3 ?l3 ?c3 ?k3 ?a4 ?l4 ?c4 ?k4 ?a5 ?l5 ?c5 ?k5 ?a6 ?l6 ?c6 ?k6 ?a7 ?l7 ?c7 ?k7 ?a8 ?l8 ?c8 ?k8 ?a9 ?l9 ?c9 ?k9 ?a10 ?l10 ?c10 ?k10 ?a11 ?l11 ?c11 ?k11 ?a12 ?l12 ?c12 ?k12 ?a13 ?l13 ?c13 ?k13 ?a14 ?l14 ?c14 ?k14 ?a15 ?l15 ?c15 ?k15 ?a16 ?l16 ?c16 ?k16 ?a17 ?l17 ?c17 ?k17 ?a18 ?l18 ?c18 ?k18 ?a19 ?l19 ?c19 ?k19 ?a20 ?l20 ?c20 ?k20 ?a21 ?l21 ?c21 ?k21 ?a22 ?l22 ?c22 ?k22 ?a23 ?l23 ?c23 ?k23 ?z_ValueError ?z_all ?z_bool ?z_dict ?z_enumerate ?z_int ?z_isinstance ?z_len ?z_list ?z_max ?z_range ?z_str ?z_tuple ?x0 ?x1 ?cg_NoFloor ?cg_NoPlace ?cg_NoNumber ?cg_NoRow ?cg_Unlike ?cg_NoTile ?cg_NoRule ?cg_NoText ?cg_TooGreat ?cg_FloorError ?ai_NoFloor ?at_NoFloor ?as_NoFloor ?ai_NoPlace ?at_NoPlace ?as_NoPlace ?ai_NoNumber ?at_NoNumber ?as_NoNumber ?ai_NoRow ?at_NoRow ?as_NoRow ?ai_Unlike ?at_Unlike ?as_Unlike ?ai_NoTile ?at_NoTile ?as_NoTile ?ai_NoRule ?at_NoRule ?as_NoRule ?ai_NoText ?at_NoText ?as_NoText ?ai_TooGreat ?at_TooGreat ?as_TooGreat ?oc1 ?oc2 ?e1_NoPlace ?e2_NoPlace ?e3_NoPlace ?e4_NoPlace ?e5_NoPlace ?e6_NoPlace ?e7_NoPlace ?e8_NoPlace ?r_NoPlace ?e1_NoTile ?e2_NoTile ?e3_NoTile ?e4_NoTile ?e5_NoTile ?e6_NoTile ?e7_NoTile ?e8_NoTile ?xl_NoTile ?xr_NoTile ?xs_NoTile ?xi_NoTile ?xt_NoTile ?xn_NoTile ?xf_NoTile ?xc_NoTile ?xk_NoTile ?p_NoPlace_NoFloor ?p_NoPlace_NoPlace ?p_NoPlace_NoNumber ?p_NoPlace_NoRow ?p_NoPlace_Unlike ?p_NoPlace_NoTile ?p_NoPlace_NoRule ?p_NoPlace_NoText ?p_NoPlace_TooGreat ?p_NoPlace_FloorError ?p_NoTile_NoFloor ?p_NoTile_NoPlace ?p_NoTile_NoNumber ?p_NoTile_NoRow ?p_NoTile_Unlike ?p_NoTile_NoTile ?p_NoTile_NoRule ?p_NoTile_NoText ?p_NoTile_TooGreat ?p_NoTile_FloorError ?v_NoPlace ?v_NoTile ?kb_FloorError ?kd_FloorError ?kt_FloorError
    (case a0 => k_is); (case l0 => k_is); (case c0 => k_is); (case k0 => k_is); (case a1 => k_is); (case l1 => k_is); (case c1 => k_is); (case k1 => k_is); (case a2 => k_is); (case l2 => k_is); (case c2 => k_is); (case k2 => k_is); (case a3 => k_is); (case l3 => k_is); (case c3 => k_is); (case k3 => k_is); (case a4 => k_is); (case l4 => k_is); (case c4 => k_is); (case k4 => k_is); (case a5 => k_is); (case l5 => k_is); (case c5 => k_is); (case k5 => k_is); (case a6 => k_is); (case l6 => k_is); (case c6 => k_is); (case k6 => k_is); (case a7 => k_is); (case l7 => k_is); (case c7 => k_is); (case k7 => k_is); (case a8 => k_is); (case l8 => k_is); (case c8 => k_is); (case k8 => k_is); (case a9 => k_is); (case l9 => k_is); (case c9 => k_is); (case k9 => k_is); (case a10 => k_is); (case l10 => k_is); (case c10 => k_is); (case k10 => k_is); (case a11 => k_is); (case l11 => k_is); (case c11 => k_is); (case k11 => k_is); (case a12 => k_is); (case l12 => k_is); (case c12 => k_is); (case k12 => k_is); (case a13 => k_is); (case l13 => k_is); (case c13 => k_is); (case k13 => k_is); (case a14 => k_is); (case l14 => k_is); (case c14 => k_is); (case k14 => k_is); (case a15 => k_is); (case l15 => k_is); (case c15 => k_is); (case k15 => k_is); (case a16 => k_is); (case l16 => k_is); (case c16 => k_is); (case k16 => k_is); (case a17 => k_is); (case l17 => k_is); (case c17 => k_is); (case k17 => k_is); (case a18 => k_is); (case l18 => k_is); (case c18 => k_is); (case k18 => k_is); (case a19 => k_is); (case l19 => k_is); (case c19 => k_is); (case k19 => k_is); (case a20 => k_is); (case l20 => k_is); (case c20 => k_is); (case k20 => k_is); (case a21 => k_is); (case l21 => k_is); (case c21 => k_is); (case k21 => k_is); (case a22 => k_is); (case l22 => k_is); (case c22 => k_is); (case k22 => k_is); (case a23 => k_is); (case l23 => k_is); (case c23 => k_is); (case k23 => k_is); (case z_ValueError => k_is); (case z_all => k_is); (case z_bool => k_is); (case z_dict => k_is); (case z_enumerate => k_is); (case z_int => k_is); (case z_isinstance => k_is); (case z_len => k_is); (case z_list => k_is); (case z_max => k_is); (case z_range => k_is); (case z_str => k_is); (case z_tuple => k_is); (case x0 => k_is); (case x1 => k_is); (case cg_NoFloor => k_is); (case cg_NoPlace => k_is); (case cg_NoNumber => k_is); (case cg_NoRow => k_is); (case cg_Unlike => k_is); (case cg_NoTile => k_is); (case cg_NoRule => k_is); (case cg_NoText => k_is); (case cg_TooGreat => k_is); (case cg_FloorError => k_is); (case ai_NoFloor => k_is); (case at_NoFloor => k_is); (case as_NoFloor => k_is); (case ai_NoPlace => k_is); (case at_NoPlace => k_is); (case as_NoPlace => k_is); (case ai_NoNumber => k_is); (case at_NoNumber => k_is); (case as_NoNumber => k_is); (case ai_NoRow => k_is); (case at_NoRow => k_is); (case as_NoRow => k_is); (case ai_Unlike => k_is); (case at_Unlike => k_is); (case as_Unlike => k_is); (case ai_NoTile => k_is); (case at_NoTile => k_is); (case as_NoTile => k_is); (case ai_NoRule => k_is); (case at_NoRule => k_is); (case as_NoRule => k_is); (case ai_NoText => k_is); (case at_NoText => k_is); (case as_NoText => k_is); (case ai_TooGreat => k_is); (case at_TooGreat => k_is); (case as_TooGreat => k_is); (case oc1 => k_is); (case oc2 => k_is); (case e1_NoPlace => k_is); (case e2_NoPlace => k_is); (case e3_NoPlace => k_is); (case e4_NoPlace => k_is); (case e5_NoPlace => k_is); (case e6_NoPlace => k_is); (case e7_NoPlace => k_is); (case e8_NoPlace => k_is); (case r_NoPlace => k_exc); (case e1_NoTile => k_is); (case e2_NoTile => k_is); (case e3_NoTile => k_is); (case e4_NoTile => k_is); (case e5_NoTile => k_is); (case e6_NoTile => k_is); (case e7_NoTile => k_is); (case e8_NoTile => k_is); (case xl_NoTile => k_is); (case xr_NoTile => decide +kernel); (case xs_NoTile => k_is); (case xi_NoTile => k_is); (case xt_NoTile => k_is); (case xn_NoTile => k_is); (case xf_NoTile => k_is); (case xc_NoTile => k_is); (case xk_NoTile => k_is); (case p_NoPlace_NoFloor => k_is); (case p_NoPlace_NoPlace => k_is); (case p_NoPlace_NoNumber => k_is); (case p_NoPlace_NoRow => k_is); (case p_NoPlace_Unlike => k_is); (case p_NoPlace_NoTile => k_is); (case p_NoPlace_NoRule => k_is); (case p_NoPlace_NoText => k_is); (case p_NoPlace_TooGreat => k_is); (case p_NoPlace_FloorError => k_is); (case p_NoTile_NoFloor => k_is); (case p_NoTile_NoPlace => k_is); (case p_NoTile_NoNumber => k_is); (case p_NoTile_NoRow => k_is); (case p_NoTile_Unlike => k_is); (case p_NoTile_NoTile => k_is); (case p_NoTile_NoRule => k_is); (case p_NoTile_NoText => k_is); (case p_NoTile_TooGreat => k_is); (case p_NoTile_FloorError => k_is); (case v_NoPlace => k_is); (case v_NoTile => k_is); (case kb_FloorError => k_is); (case kd_FloorError => k_is); (case kt_FloorError => k_is)

