import PyProof.Rows.All
import Wide.All
import OpenK.AllK
import Wide.FinOn
import PyProof.EqAt
import PyProof.EqKinds
import PyProof.TupleCall
import KE.KStateDown
import KE.KDictPairs
import HandS.ForMost
import HandS.ForExc
import HandS.Defaults
import HandS.IsInst
import HandS.TupAny
import HandS.TupLe
import HandS.DictComp
import HandS.More
import HandS.Head0
import HandS.Head1
import HandS.Head2
import HandS.HeadEnd
import HandS.HeadHook1
import HandS.HeadHook2
import PySem.Challenge.RW_tidehouse_k04_whole_names_have_four_tags
set_option Elab.async false
set_option linter.all false
set_option maxRecDepth 100000
namespace TH
open PySem

inductive D where
  | non | bl (b : Bool) | int (i : Int) | str (s : Str)
  | tup (l : List D) | ilst (l : List D) | idic (l : List (D × D))
  | ref (n : Nat)
  | exc (c : Nat) (l : List D)

mutual
def D.deq : (a b : D) → Decidable (a = b)
  | .non, .non => .isTrue rfl
  | .bl a, .bl b => if h : a = b then .isTrue (by rw [h]) else .isFalse (by intro e; cases e; exact h rfl)
  | .int a, .int b => if h : a = b then .isTrue (by rw [h]) else .isFalse (by intro e; cases e; exact h rfl)
  | .str a, .str b => if h : a = b then .isTrue (by rw [h]) else .isFalse (by intro e; cases e; exact h rfl)
  | .tup a, .tup b => match D.deqL a b with
    | .isTrue h => .isTrue (by rw [h])
    | .isFalse h => .isFalse (by intro e; cases e; exact h rfl)
  | .ilst a, .ilst b => match D.deqL a b with
    | .isTrue h => .isTrue (by rw [h])
    | .isFalse h => .isFalse (by intro e; cases e; exact h rfl)
  | .idic a, .idic b => match D.deqP a b with
    | .isTrue h => .isTrue (by rw [h])
    | .isFalse h => .isFalse (by intro e; cases e; exact h rfl)
  | .ref a, .ref b => if h : a = b then .isTrue (by rw [h]) else .isFalse (by intro e; cases e; exact h rfl)
  | .exc c a, .exc d b => if hc : c = d then match D.deqL a b with
      | .isTrue h => .isTrue (by rw [h, hc])
      | .isFalse h => .isFalse (by intro e; cases e; exact h rfl)
    else .isFalse (by intro e; cases e; exact hc rfl)
  | .non, .bl _ | .non, .int _ | .non, .str _ | .non, .tup _ | .non, .ilst _ | .non, .idic _ | .non, .ref _ | .non, .exc _ _ => .isFalse (by intro e; cases e)
  | .bl _, .non | .bl _, .int _ | .bl _, .str _ | .bl _, .tup _ | .bl _, .ilst _ | .bl _, .idic _ | .bl _, .ref _ | .bl _, .exc _ _ => .isFalse (by intro e; cases e)
  | .int _, .non | .int _, .bl _ | .int _, .str _ | .int _, .tup _ | .int _, .ilst _ | .int _, .idic _ | .int _, .ref _ | .int _, .exc _ _ => .isFalse (by intro e; cases e)
  | .str _, .non | .str _, .bl _ | .str _, .int _ | .str _, .tup _ | .str _, .ilst _ | .str _, .idic _ | .str _, .ref _ | .str _, .exc _ _ => .isFalse (by intro e; cases e)
  | .tup _, .non | .tup _, .bl _ | .tup _, .int _ | .tup _, .str _ | .tup _, .ilst _ | .tup _, .idic _ | .tup _, .ref _ | .tup _, .exc _ _ => .isFalse (by intro e; cases e)
  | .ilst _, .non | .ilst _, .bl _ | .ilst _, .int _ | .ilst _, .str _ | .ilst _, .tup _ | .ilst _, .idic _ | .ilst _, .ref _ | .ilst _, .exc _ _ => .isFalse (by intro e; cases e)
  | .idic _, .non | .idic _, .bl _ | .idic _, .int _ | .idic _, .str _ | .idic _, .tup _ | .idic _, .ilst _ | .idic _, .ref _ | .idic _, .exc _ _ => .isFalse (by intro e; cases e)
  | .ref _, .non | .ref _, .bl _ | .ref _, .int _ | .ref _, .str _ | .ref _, .tup _ | .ref _, .ilst _ | .ref _, .idic _ | .ref _, .exc _ _ => .isFalse (by intro e; cases e)
  | .exc _ _, .non | .exc _ _, .bl _ | .exc _ _, .int _ | .exc _ _, .str _ | .exc _ _, .tup _ | .exc _ _, .ilst _ | .exc _ _, .idic _ | .exc _ _, .ref _ => .isFalse (by intro e; cases e)
def D.deqL : (a b : List D) → Decidable (a = b)
  | [], [] => .isTrue rfl
  | x :: xs, y :: ys => match D.deq x y, D.deqL xs ys with
    | .isTrue h, .isTrue h' => .isTrue (by rw [h, h'])
    | .isFalse h, _ => .isFalse (by intro e; cases e; exact h rfl)
    | _, .isFalse h => .isFalse (by intro e; cases e; exact h rfl)
  | [], _ :: _ => .isFalse (by intro e; cases e)
  | _ :: _, [] => .isFalse (by intro e; cases e)
def D.deqP : (a b : List (D × D)) → Decidable (a = b)
  | [], [] => .isTrue rfl
  | (x, u) :: xs, (y, v) :: ys => match D.deq x y, D.deq u v, D.deqP xs ys with
    | .isTrue h, .isTrue h1, .isTrue h' => .isTrue (by rw [h, h1, h'])
    | .isFalse h, _, _ => .isFalse (by intro e; cases e; exact h rfl)
    | _, .isFalse h, _ => .isFalse (by intro e; cases e; exact h rfl)
    | _, _, .isFalse h => .isFalse (by intro e; cases e; exact h rfl)
  | [], _ :: _ => .isFalse (by intro e; cases e)
  | _ :: _, [] => .isFalse (by intro e; cases e)
end
instance : DecidableEq D := D.deq

abbrev SZ : Nat := 16777216
abbrev Env := List (Option D)
inductive O where
  | lst (l : List D)
  | dic (l : List (D × D)) (lk : Bool)
  | ins (c : Nat) (fs : List (Nat × D))
  | rol (l : List D)
abbrev Sto := Nat → Option O
def Sto.set (S : Sto) (n : Nat) (o : O) : Sto := fun m => if m = n then some o else S m
def Sto.del (S : Sto) (n : Nat) : Sto := fun m => if m = n then none else S m
def Sto.le (S S' : Sto) : Prop := ∀ n o, S n = some o → S' n = some o

/-! ### data: equality, order, keys -/
mutual
def D.eqv : D → D → Bool
  | .non, .non => true
  | .bl a, .bl b => a == b
  | .bl a, .int j => (if a then 1 else 0) == j
  | .int i, .bl b => i == (if b then 1 else 0)
  | .int i, .int j => i == j
  | .str x, .str y => x == y
  | .tup a, .tup b => D.eqvL a b
  | .ilst a, .ilst b => D.eqvL a b
  | _, _ => false
def D.eqvL : List D → List D → Bool
  | [], [] => true
  | x :: xs, y :: ys => D.eqv x y && D.eqvL xs ys
  | _, _ => false
end
mutual
def D.dep : D → Nat
  | .tup l => D.depL l + 1
  | .ilst l => D.depL l + 1
  | _ => 0
def D.depL : List D → Nat
  | [] => 0
  | x :: xs => max (D.dep x) (D.depL xs)
end
def D.scl : D → Bool
  | .non => true
  | .bl _ => true
  | .int _ => true
  | .str _ => true
  | _ => false
mutual
/-- refs to lists are read -/
inductive Rs (S : Sto) : D → D → Prop
  | scl {d : D} (h : d.scl = true) : Rs S d d
  | tup {l l' : List D} (h : RsL S l l') : Rs S (.tup l) (.tup l')
  | ilst {l l' : List D} (h : RsL S l l') : Rs S (.ilst l) (.ilst l')
  | ref {n : Nat} {l l' : List D} (e : S n = some (.lst l)) (h : RsL S l l') : Rs S (.ref n) (.ilst l')
inductive RsL (S : Sto) : List D → List D → Prop
  | nil : RsL S [] []
  | cons {d d' : D} {l l' : List D} (h : Rs S d d') (t : RsL S l l') : RsL S (d :: l) (d' :: l')
end
/-- x == y -/
def eqR (x y : D) (S : Sto) (Q : Bool → Prop) : Prop :=
  match x.scl && y.scl with
  | true => Q (D.eqv x y)
  | false => ∃ x' y', Rs S x x' ∧ Rs S y y' ∧ min x'.dep y'.dep ≤ 64 ∧ Q (D.eqv x' y')
/-- the items of a list -/
def lstOf (S : Sto) : D → Option (List D)
  | .ilst l => some l
  | .ref n => match S n with
    | some (.lst l) => some l
    | some (.rol l) => some l
    | _ => none
  | _ => none
def seqOf (S : Sto) : D → Option (List D)
  | .tup l => some l
  | d => lstOf S d
/-- .. that may be joined -/
def lstM (S : Sto) : D → Option (List D)
  | .ilst l => some l
  | .ref n => match S n with
    | some (.lst l) => some l
    | _ => none
  | _ => none
/-- a new list: one that may be changed (fl), or a plain value -/
def newL (fl : Bool) (l : List D) (S : Sto) (Q : D → Sto → Prop) : Prop :=
  match fl with
  | true => ∀ n, S n = none → Q (.ref n) (S.set n (.lst l))
  | false => Q (.ilst l) S
def newD (fl : Bool) (l : List (D × D)) (S : Sto) (Q : D → Sto → Prop) : Prop :=
  match fl with
  | true => ∀ n, S n = none → Q (.ref n) (S.set n (.dic l false))
  | false => Q (.idic l) S
/-! keys -/
mutual
def D.kOk : D → Bool
  | .int _ => true
  | .str _ => true
  | .tup l => D.kOkL l
  | _ => false
def D.kOkL : List D → Bool
  | [] => true
  | x :: xs => D.kOk x && D.kOkL xs
end
def D.kS : D → Bool
  | .int _ => true
  | .str _ => true
  | _ => false
def getK (k : D) : List (D × D) → Option D
  | [] => none
  | (a, b) :: r => if a = k then some b else getK k r
def putKD (k v : D) : List (D × D) → List (D × D)
  | [] => [(k, v)]
  | (a, b) :: r => if a = k then (a, v) :: r else (a, b) :: putKD k v r
def dicOf (S : Sto) : D → Option (List (D × D))
  | .idic l => some l
  | .ref n => match S n with
    | some (.dic l _) => some l
    | _ => none
  | _ => none

/-- a tuple known to be without attributes of its own (.exc 7), seen as any tuple -/
def wkD : D → D
  | .tup l => .tup (wkL l)
  | .exc 7 l => .tup (wkL l)
  | d => d
where wkL : List D → List D
  | [] => []
  | x :: r => wkD x :: wkL r
/-- dict(t) of such a tuple of pairs -/
def dzR (x : D) (S : Sto) (fl : Bool) (Q : D → Sto → Prop) (pairs : List D → Option (List (D × D))) (nw : Bool → List (D × D) → Sto → (D → Sto → Prop) → Prop) (mk : List (D × D) → List (D × D)) : Prop :=
  match x with
  | .exc 7 l => match pairs l with
    | some kvs => (kvs.all fun p => p.1.kS) = true ∧ nw fl (mk kvs) S Q
    | none => False
  | _ => False
/-! ### syntax -/
inductive BOp where
  | add | sub | mul | fdiv | mod | pow
  deriving DecidableEq
inductive COp where
  | eq | ne | lt | le | gt | ge | is | isn | inn | nin
  deriving DecidableEq
inductive Ty where
  | int | bool | str | tuple | list
  deriving DecidableEq
inductive BF where
  | len | sorted | all | list | tuple | dict | abs
  deriving DecidableEq
inductive BM where
  | append | pop | get | extend
  deriving DecidableEq
inductive Tgt where
  | nm (i : Nat)
  | tp (is : List Nat)
  deriving DecidableEq
mutual
inductive IE where
  | var (i : Nat)
  | cst (d : D)
  | glo (g : Nat)
  | bin (op : BOp) (fl : Bool) (a b : IE)
  | neg (a : IE)
  | not (a : IE) | and (a b : IE) | or (a b : IE) | ite (c a b : IE)
  | cmp (op : COp) (a b : IE) | cmp2 (o1 o2 : COp) (a b c : IE)
  | idx (a b : IE) | slL (fl : Bool) (a lo : IE) | slH (fl : Bool) (a hi : IE) | slB (fl : Bool) (a lo hi : IE)
  | tup (as : IA) | lst (fl : Bool) (as : IA) | dic0 (fl : Bool)
  | call (f : Nat) (as : IA)
  | bf (b : BF) (fl : Bool) (as : IA)
  | bm (b : BM) (fl : Bool) (e : IE) (as : IA)
  | isi (e : IE) (t : Ty)
  | comp (fl : Bool) (own : List Nat) (t : Tgt) (it : II) (ifs : IA) (elt : IE)
  | dcomp (fl : Bool) (own : List Nat) (t : Tgt) (it : II) (k v : IE)
  | comp2 (fl : Bool) (own : List Nat) (t : Tgt) (it : II) (ifs : IA) (own1 : List Nat) (t1 : Tgt) (it1 : II) (ifs1 : IA) (elt : IE)
  | inv (a e : IE)
  | varw (i : Nat)
  | tupz (e : IE)
  | dictz (fl : Bool) (e : IE)
inductive IA where
  | nil | cons (e : IE) (r : IA)
inductive II where
  | ex (e : IE) | rng1 (a : IE) | rng2 (a b : IE) | vals (e : IE) | itms (e : IE)
end
mutual
inductive IS where
  | expr (e : IE)
  | asg (t : Tgt) (e : IE)
  | sub (o k e : IE)
  | if_ (c : IE) (a b : ISs)
  | for_ (t : Tgt) (it : II) (body : ISs)
  | while_ (c : IE) (body : ISs)
  | brk | ret (e : IE) | retN | pass | nev
  | raise (c : Nat)
inductive ISs where
  | nil | cons (s : IS) (r : ISs)
end

/-! ### operators -/
def mulOk (i j : Int) : Prop := (-(2 ^ 64) < i ∧ i < 2 ^ 64) ∨ (-(2 ^ 64) < j ∧ j < 2 ^ 64)
def binR (op : BOp) (fl : Bool) (x y : D) (S : Sto) (Q : D → Sto → Prop) : Prop :=
  match op, x, y with
  | .add, .int i, .int j => Q (.int (i + j)) S
  | .add, .str a, .str b => a.length + b.length ≤ SZ ∧ Q (.str (a ++ b)) S
  | .add, .tup a, .tup b => a.length + b.length ≤ SZ ∧ Q (.tup (a ++ b)) S
  | .add, x, y => match lstM S x, lstM S y with
    | some a, some b => a.length + b.length ≤ SZ ∧ newL fl (a ++ b) S Q
    | _, _ => False
  | .sub, .int i, .int j => Q (.int (i - j)) S
  | .mul, .int i, .int j => mulOk i j ∧ Q (.int (i * j)) S
  | .fdiv, .int i, .int j => 0 < j ∧ j < 1073741824 ∧ Q (.int (i / j)) S
  | .mod, .int i, .int j => 0 < j ∧ Q (.int (i % j)) S
  | .pow, .int i, .int j => (0 ≤ j ∧ j ≤ 1000 ∧ i.natAbs < 2 ^ 64) ∧ Q (.int (i ^ j.toNat)) S
  | _, _, _ => False
/-- a in b, b read -/
def inR (x : D) (l : List D) (S : Sto) (Q : Bool → Prop) : Prop :=
  match x.scl && l.all D.scl with
  | true => Q (l.any fun y => D.eqv y x)
  | false => ∃ x' l', Rs S x x' ∧ RsL S l l' ∧ min x'.dep (D.depL l') ≤ 64 ∧ Q (l'.any fun y => D.eqv y x')
/-- x in y.values(), y a plain dict -/
def inVR (x y : D) (S : Sto) (Q : Bool → Sto → Prop) : Prop :=
  match y with
  | .idic l => ∃ x' l', Rs S x x' ∧ RsL S (l.map Prod.snd) l' ∧ min x'.dep (D.depL l') ≤ 64 ∧ Q (l'.any fun y => D.eqv y x') S
  | _ => False
def strLt (a b : Str) : Bool := decide (a.cps.toList < b.cps.toList)
def memR (x y : D) (S : Sto) (Q : Bool → Prop) : Prop :=
  match x, y with
  | .str a, .str b => ∃ c, a = ⟨#[c]⟩ ∧ Q (decide (c ∈ b.cps.toList))
  | _, .str _ => False
  | x, y => match seqOf S y with
    | some l => inR x l S Q
    | none => match dicOf S y with
      | some l => x.kS = true ∧ Q (getK x l).isSome
      | none => False
def cmpR (op : COp) (x y : D) (S : Sto) (Q : Bool → Prop) : Prop :=
  match op with
  | .eq => eqR x y S Q
  | .ne => eqR x y S fun b => Q (!b)
  | .lt => match x, y with
    | .int i, .int j => Q (decide (i < j))
    | .str a, .str b => Q (strLt a b)
    | _, _ => False
  | .le => match x, y with
    | .int i, .int j => Q (decide (i ≤ j))
    | _, _ => False
  | .gt => match x, y with
    | .int i, .int j => Q (decide (j < i))
    | _, _ => False
  | .ge => match x, y with
    | .int i, .int j => Q (decide (j ≤ i))
    | .str a, .str b => Q (!strLt a b)
    | _, _ => False
  | .is => match y with
    | .non => Q (match x with | .non => true | _ => false)
    | .bl b => match x with
      | .bl c => Q (decide (c = b))
      | _ => False
    | _ => False
  | .isn => match y with
    | .non => Q (match x with | .non => false | _ => true)
    | .bl b => match x with
      | .bl c => Q (!decide (c = b))
      | _ => False
    | _ => False
  | .inn => memR x y S Q
  | .nin => memR x y S fun b => Q (!b)
/-- the place that an index means -/
def ixD (n : Nat) (i : Int) : Option Nat := if 0 ≤ i then (if i < n then some i.toNat else none) else if -(n : Int) ≤ i then some (i + n).toNat else none
def idxR (x y : D) (S : Sto) (Q : D → Sto → Prop) : Prop :=
  match seqOf S x with
  | some l => match y with
    | .int i => match (ixD l.length i).bind fun j => l[j]? with
      | some d => Q d S
      | none => False
    | _ => False
  | none => match dicOf S x with
    | some l => y.kS = true ∧ match getK y l with
      | some d => Q d S
      | none => False
    | none => False
def slB (n d : Nat) : Option Int → Nat
  | none => d
  | some v => if v < 0 then (v + (n : Int)).toNat else min v.toNat n
def cutD (l : List D) (lo hi : Option Int) : List D := (l.drop (slB l.length 0 lo)).take (slB l.length l.length hi - slB l.length 0 lo)
def slcR (fl : Bool) (x : D) (lo hi : Option Int) (S : Sto) (Q : D → Sto → Prop) : Prop :=
  match x with
  | .tup l => Q (.tup (cutD l lo hi)) S
  | x => match lstOf S x with
    | some l => newL fl (cutD l lo hi) S Q
    | none => False
inductive TyN where
  | non | bool | int | str | tuple | list
  deriving DecidableEq
def tyOf (S : Sto) : D → Option TyN
  | .non => some .non
  | .bl _ => some .bool
  | .int _ => some .int
  | .str _ => some .str
  | .tup _ => some .tuple
  | .ilst _ => some .list
  | .ref n => match S n with
    | some (.lst _) => some .list
    | some (.rol _) => some .list
    | _ => none
  | _ => none
def subTy : TyN → Ty → Bool
  | .bool, .int => true
  | .bool, .bool => true
  | .int, .int => true
  | .str, .str => true
  | .tuple, .tuple => true
  | .list, .list => true
  | _, _ => false
def isiR (d : D) (t : Ty) (S : Sto) (Q : D → Sto → Prop) : Prop :=
  match tyOf S d with
  | some a => Q (.bl (subTy a t)) S
  | none => False
/-! sorting -/
def insO {α : Type} (lt : α → α → Bool) (x : α) : List α → List α
  | [] => [x]
  | y :: r => if lt y x then y :: insO lt x r else x :: y :: r
def sortO {α : Type} (lt : α → α → Bool) : List α → List α
  | [] => []
  | x :: r => insO lt x (sortO lt r)
def sortS (l : List Str) : List Str := sortO strLt l
def strsOf : List D → Option (List Str)
  | [] => some []
  | .str s :: r => (strsOf r).map (s :: ·)
  | _ => none
def blsOf : List D → Option (List Bool)
  | [] => some []
  | .bl s :: r => (blsOf r).map (s :: ·)
  | _ => none
def bfR (b : BF) (fl : Bool) (as : List D) (S : Sto) (Q : D → Sto → Prop) : Prop :=
  match b, as with
  | .len, [x] => match seqOf S x with
    | some l => Q (.int l.length) S
    | none => match x with
      | .str s => s.length ≤ SZ ∧ Q (.int s.length) S
      | x => match dicOf S x with
        | some l => Q (.int l.length) S
        | none => False
  | .sorted, [x] => match lstOf S x with
    | some l => match strsOf l with
      | some ss => ss.length < 64 ∧ newL fl ((sortS ss).map D.str) S Q
      | none => False
    | none => match dicOf S x with
      | some l => match strsOf (l.map Prod.fst) with
        | some ss => ss.length < 64 ∧ newL fl ((sortS ss).map D.str) S Q
        | none => False
      | none => False
  | .all, [x] => match lstOf S x with
    | some l => match blsOf l with
      | some bs => Q (.bl (bs.all id)) S
      | none => False
    | none => False
  | .list, [x] => match seqOf S x with
    | some l => newL fl l S Q
    | none => False
  | .tuple, [x] => match seqOf S x with
    | some l => Q (.tup l) S
    | none => False
  | .dict, [x] => match dicOf S x with
    | some l => newD fl l S Q
    | none => False
  | .abs, [.int i] => Q (.int (if i < 0 then -i else i)) S
  | _, _ => False
def bmR (b : BM) (_fl : Bool) (x : D) (as : List D) (S : Sto) (Q : D → Sto → Prop) : Prop :=
  match b, x, as with
  | .append, .ref n, [d] => match S n with
    | some (.lst l) => l.length < SZ ∧ Q .non (S.set n (.lst (l ++ [d])))
    | _ => False
  | .pop, .ref n, [.int i] => match S n with
    | some (.lst l) => (-(2 ^ 63) ≤ i ∧ i < 2 ^ 63) ∧ match ixD l.length i with
      | some j => match l[j]? with
        | some d => Q d (S.set n (.lst (l.eraseIdx j)))
        | none => False
      | none => False
    | _ => False
  | .extend, .ref n, [d] => match S n with
    | some (.lst l) => match lstM S d with
      | some l2 => l.length + l2.length ≤ SZ ∧ Q .non (S.set n (.lst (l ++ l2)))
      | none => False
    | _ => False
  | .get, x, [k, d] => match dicOf S x with
    | some l => k.kS = true ∧ Q ((getK k l).getD d) S
    | none => False
  | _, _, _ => False
/-- the receiver that a method asks -/
def bmD (b : BM) (x : D) (S : Sto) : Prop := match b with
  | .get => (dicOf S x).isSome = true
  | _ => (lstM S x).isSome = true
def subR (o k v : D) (S : Sto) (Q : Sto → Prop) : Prop :=
  match o with
  | .ref n => match S n with
    | some (.lst l) => match k with
      | .int i => match ixD l.length i with
        | some j => Q (S.set n (.lst (l.set j v)))
        | none => False
      | _ => False
    | some (.dic l false) => k.kS = true ∧ l.length < SZ ∧ Q (S.set n (.dic (putKD k v l) false))
    | _ => False
  | _ => False

/-! ### the program, calls -/
abbrev FnSem := Nat → List D → Sto → (D → Sto → Prop) → (Nat → List D → Sto → Prop) → Prop
structure FnDef where
  np : Nat
  ns : Nat
  body : ISs
structure Prog where
  fn : Nat → Option FnDef
  cs : Nat → Option D

def getV : Env → Nat → Option D
  | [], _ => none
  | x :: _, 0 => x
  | _ :: r, i + 1 => getV r i
def setV : Env → Nat → Option D → Env
  | [], _, _ => []
  | _ :: r, 0, v => v :: r
  | x :: r, i + 1, v => x :: setV r i v
def setVs : Env → List Nat → List D → Env
  | ε, i :: is, d :: ds => setVs (setV ε i (some d)) is ds
  | ε, _, _ => ε
def wipeV (ε : Env) : List Nat → Env
  | [] => ε
  | i :: is => setV (wipeV ε is) i none
def asgT (t : Tgt) (d : D) (ε : Env) (Q : Env → Prop) : Prop :=
  match t with
  | .nm i => Q (setV ε i (some d))
  | .tp is => match d with
    | .tup ds => ds.length = is.length ∧ Q (setVs ε is ds)
    | _ => False
/-- what a for walks: the items; the object that must stay -/
structure Wk where
  items : List D
  src : Option (Nat × O)
def Wk.still (w : Wk) (S : Sto) : Prop :=
  match w.src with
  | none => True
  | some (n, o) => S n = some o
def walkL (W : Sto → Prop) (step : D → Env → Sto → (Env → Sto → Prop) → Prop) (fin : Env → Sto → Prop) : List D → Env → Sto → Prop
  | [], ε, S => W S ∧ fin ε S
  | x :: xs, ε, S => W S ∧ step x ε S (walkL W step fin xs)
def compA (W : Sto → Prop) (step : D → List D → Sto → (List D → Sto → Prop) → Prop) (fin : List D → Sto → Prop) : List D → List D → Sto → Prop
  | [], acc, S => W S ∧ fin acc S
  | x :: xs, acc, S => W S ∧ step x acc S fun acc' S' => compA W step fin xs acc' S'
def compL (W : Sto → Prop) (step : D → Sto → (Option D → Sto → Prop) → Prop) (fin : List D → Sto → Prop) : List D → List D → Sto → Prop
  | [], acc, S => W S ∧ fin acc S
  | x :: xs, acc, S => W S ∧ step x S fun o S' => match o with
    | none => compL W step fin xs acc S'
    | some d => compL W step fin xs (acc ++ [d]) S'
def pairsOf : List D → Option (List (D × D))
  | [] => some []
  | .tup [a, b] :: r => (pairsOf r).map ((a, b) :: ·)
  | _ => none
def mkDic (kvs : List (D × D)) : List (D × D) := kvs.foldl (fun l p => putKD p.1 p.2 l) []
def rngL (lo : Int) : Nat → List D
  | 0 => []
  | n + 1 => .int lo :: rngL (lo + 1) n
def rngR (lo hi : Int) (S : Sto) (Q : Wk → Sto → Prop) : Prop :=
  (-(2 ^ 62) ≤ lo ∧ lo < 2 ^ 62 ∧ -(2 ^ 62) ≤ hi ∧ hi < 2 ^ 62 ∧ hi - lo ≤ SZ) ∧ Q ⟨rngL lo (hi - lo).toNat, none⟩ S
/-- a dict that is walked: it is changed no more -/
def dwR (f : D × D → D) (d : D) (S : Sto) (Q : Wk → Sto → Prop) : Prop :=
  match d with
  | .idic l => Q ⟨l.map f, none⟩ S
  | .ref n => match S n with
    | some (.dic l _) => Q ⟨l.map f, none⟩ (S.set n (.dic l true))
    | _ => False
  | _ => False
def iterR (d : D) (S : Sto) (Q : Wk → Sto → Prop) : Prop :=
  match d with
  | .tup l => Q ⟨l, none⟩ S
  | .ilst l => Q ⟨l, none⟩ S
  | .str s => s.length ≤ SZ ∧ Q ⟨s.cps.toList.map fun c => .str ⟨#[c]⟩, none⟩ S
  | .ref n => match S n with
    | some (.lst l) => Q ⟨l, some (n, .lst l)⟩ S
    | some (.rol l) => Q ⟨l, some (n, .rol l)⟩ S
    | some (.dic l _) => Q ⟨l.map Prod.fst, none⟩ (S.set n (.dic l true))
    | _ => False
  | .idic l => Q ⟨l.map Prod.fst, none⟩ S
  | _ => False
def tyB (d : D) (Q : Bool → Prop) : Prop :=
  match d with
  | .bl b => Q b
  | _ => False
def optI (d : D) (Q : Int → Prop) : Prop :=
  match d with
  | .int i => Q i
  | _ => False
section
variable (P : Prog) (Φ : FnSem)
mutual
def wpE : IE → Env → Sto → (D → Sto → Prop) → (Nat → List D → Sto → Prop) → Prop
  | .var i, ε, S, Q, _ => match getV ε i with
    | some d => Q d S
    | none => False
  | .cst d, _, S, Q, _ => Q d S
  | .glo g, _, S, Q, _ => match P.cs g with
    | some d => Q d S
    | none => False
  | .bin op fl a b, ε, S, Q, E => wpE a ε S (fun x S1 => wpE b ε S1 (fun y S2 => binR op fl x y S2 Q) E) E
  | .neg a, ε, S, Q, E => wpE a ε S (fun x S1 => optI x fun i => Q (.int (-i)) S1) E
  | .not a, ε, S, Q, E => wpE a ε S (fun x S1 => tyB x fun b => Q (.bl (!b)) S1) E
  | .and a b, ε, S, Q, E => wpE a ε S (fun x S1 => tyB x fun c => if c = true then wpE b ε S1 Q E else Q (.bl false) S1) E
  | .or a b, ε, S, Q, E => wpE a ε S (fun x S1 => tyB x fun c => if c = true then Q (.bl true) S1 else wpE b ε S1 Q E) E
  | .ite c a b, ε, S, Q, E => wpE c ε S (fun x S1 => tyB x fun k => if k = true then wpE a ε S1 Q E else wpE b ε S1 Q E) E
  | .cmp op a b, ε, S, Q, E => wpE a ε S (fun x S1 => wpE b ε S1 (fun y S2 => cmpR op x y S2 fun k => Q (.bl k) S2) E) E
  | .cmp2 o1 o2 a b c, ε, S, Q, E => wpE a ε S (fun x S1 => wpE b ε S1 (fun y S2 => cmpR o1 x y S2 fun k =>
      if k = true then wpE c ε S2 (fun z S3 => cmpR o2 y z S3 fun k => Q (.bl k) S3) E else Q (.bl false) S2) E) E
  | .idx a b, ε, S, Q, E => wpE a ε S (fun x S1 => wpE b ε S1 (fun y S2 => idxR x y S2 Q) E) E
  | .slL fl a lo, ε, S, Q, E => wpE a ε S (fun x S1 => wpE lo ε S1 (fun l S2 => optI l fun l => slcR fl x (some l) none S2 Q) E) E
  | .slH fl a hi, ε, S, Q, E => wpE a ε S (fun x S1 => wpE hi ε S1 (fun h S2 => optI h fun h => slcR fl x none (some h) S2 Q) E) E
  | .slB fl a lo hi, ε, S, Q, E => wpE a ε S (fun x S1 => wpE lo ε S1 (fun l S2 => optI l fun l => wpE hi ε S2 (fun h S3 => optI h fun h => slcR fl x (some l) (some h) S3 Q) E) E) E
  | .tup as, ε, S, Q, E => wpA as ε S (fun ds S1 => Q (.tup ds) S1) E
  | .lst fl as, ε, S, Q, E => wpA as ε S (fun ds S1 => newL fl ds S1 Q) E
  | .dic0 fl, _, S, Q, _ => newD fl [] S Q
  | .call f as, ε, S, Q, E => wpA as ε S (fun ds S1 => Φ f ds S1 Q E) E
  | .bf b fl as, ε, S, Q, E => wpA as ε S (fun ds S1 => bfR b fl ds S1 Q) E
  | .bm b fl e as, ε, S, Q, E => wpE e ε S (fun x S1 => bmD b x S1 ∧ wpA as ε S1 (fun ds S2 => bmR b fl x ds S2 Q) E) E
  | .isi e t, ε, S, Q, E => wpE e ε S (fun x S1 => isiR x t S1 Q) E
  | .comp fl own t it ifs elt, ε, S, Q, E => wpI it ε S (fun w S1 =>
      compL w.still (fun x S2 k => asgT t x (wipeV ε own) fun ε1 => wpTs ifs ε1 S2 (fun b S3 => if b = true then wpE elt ε1 S3 (fun d S4 => k (some d) S4) fun _ _ _ => False else k none S3) fun _ _ _ => False)
        (fun acc S2 => newL fl acc S2 Q) w.items [] S1) E
  | .dcomp fl own t it k v, ε, S, Q, E => wpI it ε S (fun w S1 =>
      compL w.still (fun x S2 kk => asgT t x (wipeV ε own) fun ε1 => wpE k ε1 S2 (fun a S3 => a.kS = true ∧ wpE v ε1 S3 (fun b S4 => kk (some (.tup [a, b])) S4) fun _ _ _ => False) fun _ _ _ => False)
        (fun acc S2 => match pairsOf acc with
          | some kvs => newD fl (mkDic kvs) S2 Q
          | none => False) w.items [] S1) E
  | .comp2 fl own t it ifs own1 t1 it1 ifs1 elt, ε, S, Q, E => wpI it ε S (fun w S1 =>
      compA w.still (fun x acc S2 k => asgT t x (wipeV ε own) fun ε1 => wpTs ifs ε1 S2 (fun b S3 => if b = true then
          wpI it1 ε1 S3 (fun w1 S4 => compA w1.still (fun y acc1 S5 kk => asgT t1 y (wipeV ε1 own1) fun ε2 => wpTs ifs1 ε2 S5 (fun b S6 => if b = true then acc1.length < SZ ∧ wpE elt ε2 S6 (fun d S7 => kk (acc1 ++ [d]) S7) fun _ _ _ => False else kk acc1 S6) fun _ _ _ => False)
            k w1.items acc S4) fun _ _ _ => False
        else k acc S3) fun _ _ _ => False)
        (fun acc S2 => newL fl acc S2 Q) w.items [] S1) E
  | .varw i, ε, S, Q, _ => match getV ε i with
    | some d => Q (wkD d) S
    | none => False
  | .tupz e, ε, S, Q, E => wpE e ε S (fun x S1 => match lstOf S1 x with
    | some l => Q (.exc 7 l) S1
    | none => False) E
  | .dictz fl e, ε, S, Q, E => wpE e ε S (fun x S1 => dzR x S1 fl Q pairsOf newD mkDic) E
  | .inv a e, ε, S, Q, E => wpE a ε S (fun x S1 => wpE e ε S1 (fun y S2 => inVR x y S2 fun k => Q (.bl k)) E) E
def wpTs : IA → Env → Sto → (Bool → Sto → Prop) → (Nat → List D → Sto → Prop) → Prop
  | .nil, _, S, Q, _ => Q true S
  | .cons e _, ε, S, Q, E => wpE e ε S (fun x S1 => tyB x fun b => Q b S1) E
def wpA : IA → Env → Sto → (List D → Sto → Prop) → (Nat → List D → Sto → Prop) → Prop
  | .nil, _, S, Q, _ => Q [] S
  | .cons e r, ε, S, Q, E => wpE e ε S (fun d S1 => wpA r ε S1 (fun ds S2 => Q (d :: ds) S2) E) E
def wpI : II → Env → Sto → (Wk → Sto → Prop) → (Nat → List D → Sto → Prop) → Prop
  | .ex e, ε, S, Q, E => wpE e ε S (fun x S1 => iterR x S1 Q) E
  | .rng1 a, ε, S, Q, E => wpE a ε S (fun x S1 => optI x fun i => rngR 0 i S1 Q) E
  | .vals e, ε, S, Q, E => wpE e ε S (fun x S1 => dwR Prod.snd x S1 Q) E
  | .itms e, ε, S, Q, E => wpE e ε S (fun x S1 => dwR (fun p => .tup [p.1, p.2]) x S1 Q) E
  | .rng2 a b, ε, S, Q, E => wpE a ε S (fun x S1 => wpE b ε S1 (fun y S2 => optI x fun i => optI y fun j => rngR i j S2 Q) E) E
end
def wpT (c : IE) (ε : Env) (S : Sto) (Q : Bool → Sto → Prop) (E : Nat → List D → Sto → Prop) : Prop := wpE P Φ c ε S (fun x S1 => tyB x fun b => Q b S1) E
structure En where
  nx : Env → Sto → Prop
  rt : D → Sto → Prop
  bk : Env → Sto → Prop := fun _ _ => False
  ct : Env → Sto → Prop := fun _ _ => False
  ex : Nat → List D → Env → Sto → Prop
mutual
def wpS : IS → Env → Sto → En → Prop
  | .expr e, ε, S, N => wpE P Φ e ε S (fun _ S1 => N.nx ε S1) (fun c l S1 => N.ex c l ε S1)
  | .asg t e, ε, S, N => wpE P Φ e ε S (fun d S1 => asgT t d ε fun ε1 => N.nx ε1 S1) (fun c l S1 => N.ex c l ε S1)
  | .sub o k e, ε, S, N => wpE P Φ e ε S (fun d S1 => wpE P Φ o ε S1 (fun x S2 => wpE P Φ k ε S2 (fun y S3 => subR x y d S3 fun S4 => N.nx ε S4)
      (fun c l S1 => N.ex c l ε S1)) (fun c l S1 => N.ex c l ε S1)) (fun c l S1 => N.ex c l ε S1)
  | .if_ c a b, ε, S, N => wpT P Φ c ε S (fun k S1 => if k = true then wpSs a ε S1 N else wpSs b ε S1 N) (fun c l S1 => N.ex c l ε S1)
  | .for_ t it body, ε, S, N => wpI P Φ it ε S (fun w S1 =>
      walkL w.still (fun x ε1 S2 k => asgT t x ε1 fun ε2 => wpSs body ε2 S2 { N with nx := k, ct := k, bk := N.nx }) N.nx w.items ε S1) (fun c l S1 => N.ex c l ε S1)
  | .while_ c body, ε, S, N => ∃ W : Nat → Env → Sto → Prop, (∃ m, W m ε S) ∧ ∀ m ε S, W m ε S →
      wpT P Φ c ε S (fun k S1 => if k = true then wpSs body ε S1 { N with nx := fun ε' S' => ∃ m', m' < m ∧ W m' ε' S', ct := fun ε' S' => ∃ m', m' < m ∧ W m' ε' S', bk := N.nx } else N.nx ε S1)
        (fun c l S1 => N.ex c l ε S1)
  | .brk, ε, S, N => N.bk ε S
  | .ret e, ε, S, N => wpE P Φ e ε S (fun d S1 => N.rt d S1) (fun c l S1 => N.ex c l ε S1)
  | .retN, _, S, N => N.rt .non S
  | .pass, ε, S, N => N.nx ε S
  | .nev, _, _, _ => False
  | .raise c, ε, S, N => N.ex c [] ε S
def wpSs : ISs → Env → Sto → En → Prop
  | .nil, ε, S, N => N.nx ε S
  | .cons s r, ε, S, N => wpS s ε S { N with nx := fun ε1 S1 => wpSs r ε1 S1 N }
end
end
/-- at a call's end: a part of the store is kept; a list that nobody else has becomes a plain value -/
def Fin (Q : D → Sto → Prop) (d : D) (S : Sto) : Prop :=
  (∃ S', Sto.le S' S ∧ Q d S') ∨ (∃ n l S', d = .ref n ∧ S n = some (.lst l) ∧ Sto.le S' S ∧ S' n = none ∧ Q (.ilst l) S')
    ∨ ∃ n l lk S', d = .ref n ∧ S n = some (.dic l lk) ∧ Sto.le S' S ∧ S' n = none ∧ Q (.idic l) S'
def FinX (E : Nat → List D → Sto → Prop) (c : Nat) (l : List D) (S : Sto) : Prop := ∃ S', Sto.le S' S ∧ E c l S'
def startV (n : Nat) (ds : List D) : Env := ds.map some ++ List.replicate (n - ds.length) none
def Phi (P : Prog) : Nat → FnSem
  | 0 => fun _ _ _ _ _ => False
  | k + 1 => fun f ds S Q E => match P.fn f with
    | none => False
    | some fd => ds.length = fd.np ∧ wpSs P (Phi P k) fd.body (startV fd.ns ds) S
        { nx := fun _ S1 => Fin Q .non S1, rt := fun d S1 => Fin Q d S1, ex := fun c l _ S1 => FinX E c l S1 }
end TH
namespace TH
open PySem PySem.Spec PyProof.Rows L2

/-! ### states -/
def O.mut : O → Bool
  | .rol _ => false
  | _ => true
/-- the objects' addresses; the addresses of what is being built -/
structure Rho where
  f : Nat → Addr
  gh : List Addr
instance : CoeFun Rho (fun _ => Nat → Addr) := ⟨Rho.f⟩
/-- the addresses whose objects may change -/
def Trk (ρ : Rho) (S : Sto) (a : Addr) : Prop := a ∈ ρ.gh ∨ ∃ m o, S m = some o ∧ o.mut = true ∧ ρ m = a
def kD : Key → D
  | .inl i => .int i
  | .inr s => .str s
/-- what may stand for a plain value -/
def ValO : HO → Prop
  | .lst _ => True
  | .dK _ => True
  | .frz _ _ => True
  | _ => False
/-- a value stays, but a dict may be locked -/
def Kept (u : HO) (x : Option HO) : Prop := x = some u ∨ ∃ o kvs, u = .dK kvs ∧ x = some (.frz o (.dK kvs))
theorem Kept.lst {vs : List V} {x : Option HO} (h : Kept (.lst vs) x) : x = some (.lst vs) := by
  rcases h with h | ⟨o, kvs, e, _⟩
  · exact h
  · cases e
mutual
inductive Rp (K : PySem.W.Frag) (n : Nat) (ρ : Rho) (S : Sto) (H : Hp) : D → V → Prop
  | non : Rp K n ρ S H .non .non
  | bl (b : Bool) : Rp K n ρ S H (.bl b) (.bl b)
  | int (i : Int) : Rp K n ρ S H (.int i) (.int i)
  | str {s : Str} (h : PyData.strOk s = true) : Rp K n ρ S H (.str s) (.str s)
  | tup {a : Addr} {ds : List D} {vs : List V} (h : SqT K H a vs) (z : ds.length ≤ SZ) (r : RpL K n ρ S H ds vs) : Rp K n ρ S H (.tup ds) (.ref a)
  | ilst {a : Addr} {ds : List D} {vs : List V} (h : H a = some (.lst vs)) (z : ds.length ≤ SZ) (ht : ¬ Trk ρ S a) (r : RpL K n ρ S H ds vs) : Rp K n ρ S H (.ilst ds) (.ref a)
  | idic {a : Addr} {ks : List Key} {ds : List D} {vs : List V} (h : Rd H a (.dK (ks.zip vs))) (z : ks.length ≤ SZ) (el : ks.length = ds.length) (nd : ks.Nodup) (ht : ¬ Trk ρ S a) (rk : RpL K n ρ S H (ks.map kD) (ks.map kV)) (r : RpL K n ρ S H ds vs) : Rp K n ρ S H (.idic ((ks.map kD).zip ds)) (.ref a)
  | tpz {a : Addr} {ds : List D} {vs : List V} {od : Obj} (h : H a = some (.frz od (.tup vs))) (hd : od.dict = none) (z : ds.length ≤ SZ) (r : RpL K n ρ S H ds vs) : Rp K n ρ S H (.exc 7 ds) (.ref a)
  | ref {m : Nat} (h : m < n) : Rp K n ρ S H (.ref m) (.ref (ρ m))
inductive RpL (K : PySem.W.Frag) (n : Nat) (ρ : Rho) (S : Sto) (H : Hp) : List D → List V → Prop
  | nil : RpL K n ρ S H [] []
  | cons {d : D} {v : V} {ds : List D} {vs : List V} (h : Rp K n ρ S H d v) (t : RpL K n ρ S H ds vs) : RpL K n ρ S H (d :: ds) (v :: vs)
end
/-- a list that nobody changes: locked, or of the module -/
def FqL (K : PySem.W.Frag) (H : Hp) (a : Addr) (xs : List V) : Prop :=
  (∃ o, H a = some (.frz o (.lst xs))) ∨
    ∃ (o : Obj) (its : Array Value) (n : Nat), K.lookup a = some o ∧ o.cls = .type "list" ∧ o.dict = none ∧ o.data = .seq its n ∧ its.size ≤ sizeLine ∧ Vals xs its.toList
theorem FqL.sq {K : PySem.W.Frag} {H : Hp} {a : Addr} {xs : List V} (h : FqL K H a xs) : SqL K H a xs := by
  rcases h with h | h
  · exact .inl (.inr h)
  · exact .inr h
theorem FqL.same {K : PySem.W.Frag} {H H' : Hp} {a : Addr} {xs : List V} (h : FqL K H a xs) (e : Same H H') : FqL K H' a xs := by
  rcases h with ⟨o, h⟩ | h
  · exact .inl ⟨o, e _ _ h⟩
  · exact .inr h
def ObR (K : PySem.W.Frag) (n : Nat) (ρ : Rho) (S : Sto) (H : Hp) (a : Addr) : O → Prop
  | .lst ds => ds.length ≤ SZ ∧ ∃ vs, H a = some (.lst vs) ∧ RpL K n ρ S H ds vs
  | .rol ds => ds.length ≤ SZ ∧ ∃ vs, FqL K H a vs ∧ RpL K n ρ S H ds vs
  | .dic l lk => ∃ (ks : List Key) (ds : List D) (vs : List V), l = (ks.map kD).zip ds ∧ ks.length = ds.length ∧ ks.Nodup ∧ ks.length ≤ SZ ∧ RpL K n ρ S H (ks.map kD) (ks.map kV) ∧ RpL K n ρ S H ds vs ∧
      (match lk with
        | false => H a = some (.dK (ks.zip vs))
        | true => ∃ o, H a = some (.frz o (.dK (ks.zip vs))))
  | .ins _ _ => False
structure Ok (K : PySem.W.Frag) (n : Nat) (ρ : Rho) (S : Sto) (H : Hp) : Prop where
  ob : ∀ m o, S m = some o → m < n ∧ ObR K n ρ S H (ρ m) o
  inj : ∀ m m' o o', S m = some o → S m' = some o' → o.mut = true → o'.mut = true → ρ m = ρ m' → m = m'
  gh : ∀ a, a ∈ ρ.gh → ∃ u, H a = some u
  gm : ∀ m o, S m = some o → o.mut = true → ¬ ρ m ∈ ρ.gh
structure Le0 (K : PySem.W.Frag) (n : Nat) (ρ : Rho) (S : Sto) (H : Hp) (n' : Nat) (ρ' : Rho) (S' : Sto) (H' : Hp) : Prop where
  hn : n ≤ n'
  hρ : ∀ m, m < n → ρ' m = ρ m
  tup : ∀ a xs, SqT K H a xs → SqT K H' a xs
  lst : ∀ a u, H a = some u → ValO u → ¬ Trk ρ S a → Kept u (H' a) ∧ ¬ Trk ρ' S' a
  frz : ∀ a o u, H a = some (.frz o u) → H' a = some (.frz o u)
theorem Le0.dic {K : PySem.W.Frag} {n : Nat} {ρ : Rho} {S : Sto} {H : Hp} {n' : Nat} {ρ' : Rho} {S' : Sto} {H' : Hp} (l : Le0 K n ρ S H n' ρ' S' H') {a : Addr} {kvs : List (Key × V)} (h : Rd H a (.dK kvs)) (t : ¬ Trk ρ S a) : Rd H' a (.dK kvs) ∧ ¬ Trk ρ' S' a := by
  rcases h with h | ⟨o, h⟩
  · obtain ⟨k, t'⟩ := l.lst a _ h trivial t
    refine ⟨?_, t'⟩
    rcases k with k | ⟨o, w, e, k⟩
    · exact .inl k
    · cases e; exact .inr ⟨o, k⟩
  · exact ⟨.inr ⟨o, l.frz a o _ h⟩, (l.lst a _ h trivial t).2⟩
structure Le (K : PySem.W.Frag) (n : Nat) (ρ : Rho) (S : Sto) (H : Hp) (n' : Nat) (ρ' : Rho) (S' : Sto) (H' : Hp) : Prop extends Le0 K n ρ S H n' ρ' S' H' where
  hg : ρ'.gh = ρ.gh
  gs : ∀ a, a ∈ ρ.gh → H' a = H a

section
variable {K : PySem.W.Frag} {n n' n'' : Nat} {ρ ρ' ρ'' : Rho} {S S' S'' : Sto} {H H' H'' : Hp}
mutual
theorem Rp.mono0 (l : Le0 K n ρ S H n' ρ' S' H') : ∀ {d : D} {v : V}, Rp K n ρ S H d v → Rp K n' ρ' S' H' d v
  | _, _, .non => .non
  | _, _, .bl b => .bl b
  | _, _, .int i => .int i
  | _, _, .str h => .str h
  | _, _, .tup h z r => .tup (l.tup _ _ h) z (RpL.mono0 l r)
  | _, _, .ilst h z ht r => .ilst (l.lst _ _ h trivial ht).1.lst z (l.lst _ _ h trivial ht).2 (RpL.mono0 l r)
  | _, _, .idic h z el nd ht rk r => .idic (l.dic h ht).1 z el nd (l.dic h ht).2 (RpL.mono0 l rk) (RpL.mono0 l r)
  | _, _, .tpz h hd z r => .tpz (l.frz _ _ _ h) hd z (RpL.mono0 l r)
  | _, _, .ref (m := m) h => by
    rw [← l.hρ m h]
    exact .ref (Nat.lt_of_lt_of_le h l.hn)
theorem RpL.mono0 (l : Le0 K n ρ S H n' ρ' S' H') : ∀ {ds : List D} {vs : List V}, RpL K n ρ S H ds vs → RpL K n' ρ' S' H' ds vs
  | _, _, .nil => .nil
  | _, _, .cons h t =>   .cons (Rp.mono0 l h) (RpL.mono0 l t)
end
theorem Rp.mono (l : Le K n ρ S H n' ρ' S' H') {d : D} {v : V} (r : Rp K n ρ S H d v) : Rp K n' ρ' S' H' d v := r.mono0 l.toLe0
theorem RpL.mono (l : Le K n ρ S H n' ρ' S' H') {d : List D} {v : List V} (r : RpL K n ρ S H d v) : RpL K n' ρ' S' H' d v := r.mono0 l.toLe0
theorem Le0.refl : Le0 K n ρ S H n ρ S H := ⟨Nat.le_refl _, fun _ _ => rfl, fun _ _ h => h, fun _ _ h _ t => ⟨.inl h, t⟩, fun _ _ _ h => h⟩
theorem Le.refl : Le K n ρ S H n ρ S H := ⟨Le0.refl, rfl, fun _ _ => rfl⟩
theorem Le0.trans (a : Le0 K n ρ S H n' ρ' S' H') (b : Le0 K n' ρ' S' H' n'' ρ'' S'' H'') : Le0 K n ρ S H n'' ρ'' S'' H'' :=
  ⟨Nat.le_trans a.hn b.hn, fun m h => (b.hρ m (Nat.lt_of_lt_of_le h a.hn)).trans (a.hρ m h), fun x xs h => b.tup x xs (a.tup x xs h), fun x xs h v t => by
    obtain ⟨k, t'⟩ := a.lst x xs h v t
    rcases k with k | ⟨o, w, e, k⟩
    · exact b.lst x xs k v t'
    · subst e
      exact ⟨.inr ⟨o, w, rfl, b.frz x o _ k⟩, (b.lst x _ k trivial t').2⟩, fun x o u h => b.frz x o u (a.frz x o u h)⟩
theorem Le.trans (a : Le K n ρ S H n' ρ' S' H') (b : Le K n' ρ' S' H' n'' ρ'' S'' H'') : Le K n ρ S H n'' ρ'' S'' H'' :=
  ⟨a.toLe0.trans b.toLe0, b.hg.trans a.hg, fun x h => (b.gs x (by rw [a.hg]; exact h)).trans (a.gs x h)⟩
theorem RpL.length : ∀ {ds : List D} {vs : List V}, RpL K n ρ S H ds vs → ds.length = vs.length
  | _, _, .nil => rfl
  | _, _, .cons _ t => by simp [RpL.length t]
theorem RpL.get : ∀ {ds : List D} {vs : List V} {i : Nat} {d : D}, RpL K n ρ S H ds vs → ds[i]? = some d → ∃ v, vs[i]? = some v ∧ Rp K n ρ S H d v
  | _, _, _, _, .nil, e => by simp at e
  | _, _, 0, _, .cons h _, e => by simp at e; subst e; exact ⟨_, rfl, h⟩
  | _, _, i + 1, _, .cons _ t, e => by
    obtain ⟨v, h1, h2⟩ := RpL.get (i := i) t (by simpa using e)
    exact ⟨v, by simpa using h1, h2⟩
theorem RpL.append : ∀ {ds es : List D} {vs us : List V}, RpL K n ρ S H ds vs → RpL K n ρ S H es us → RpL K n ρ S H (ds ++ es) (vs ++ us)
  | _, _, _, _, .nil, s => s
  | _, _, _, _, .cons h t, s => .cons h (RpL.append t s)
theorem RpL.take : ∀ {ds : List D} {vs : List V} (k : Nat), RpL K n ρ S H ds vs → RpL K n ρ S H (ds.take k) (vs.take k)
  | _, _, 0, _ => .nil
  | _, _, _ + 1, .nil => .nil
  | _, _, k + 1, .cons h t => .cons h (RpL.take k t)
theorem RpL.drop : ∀ {ds : List D} {vs : List V} (k : Nat), RpL K n ρ S H ds vs → RpL K n ρ S H (ds.drop k) (vs.drop k)
  | _, _, 0, r => r
  | _, _, _ + 1, .nil => .nil
  | _, _, k + 1, .cons _ t => RpL.drop k t
theorem RpL.set {d : D} {v : V} (r : Rp K n ρ S H d v) : ∀ {ds : List D} {vs : List V} (i : Nat), RpL K n ρ S H ds vs → RpL K n ρ S H (ds.set i d) (vs.set i v)
  | _, _, _, .nil => .nil
  | _, _, 0, .cons _ t => .cons r t
  | _, _, i + 1, .cons h t => .cons h (RpL.set r i t)
theorem RpL.erase : ∀ {ds : List D} {vs : List V} (i : Nat), RpL K n ρ S H ds vs → RpL K n ρ S H (ds.eraseIdx i) (vs.eraseIdx i)
  | _, _, _, .nil => .nil
  | _, _, 0, .cons _ t => t
  | _, _, i + 1, .cons h t => .cons h (RpL.erase i t)
theorem Trk.some_of (ok : Ok K n ρ S H) {a : Addr} (t : Trk ρ S a) : ∃ u, H a = some u := by
  rcases t with t | ⟨m, o, e, hm, rfl⟩
  · exact ok.gh a t
  obtain ⟨_, r⟩ := ok.ob m o e
  cases o with
  | lst ds => obtain ⟨_, vs, h, _⟩ := r; exact ⟨_, h⟩
  | rol ds => cases hm
  | dic l lk =>
    obtain ⟨ks, ds, vs, _, _, _, _, _, _, h⟩ := r
    cases lk with
    | false => exact ⟨_, h⟩
    | true => obtain ⟨o, h⟩ := h; exact ⟨_, h⟩
  | ins _ _ => exact r.elim
theorem rd_some {H : Hp} {a : Addr} {u : HO} (r : Rd H a u) : ∃ o, H a = some o := by
  rcases r with r | ⟨o, r⟩
  · exact ⟨_, r⟩
  · exact ⟨_, r⟩
theorem same_rd {a : Addr} {u : HO} (e : Same H H') (r : Rd H a u) : Rd H' a u := by
  rcases r with r | ⟨o, r⟩
  · exact .inl (e _ _ r)
  · exact .inr ⟨o, e _ _ r⟩
theorem same_sqT {a : Addr} {xs : List V} (e : Same H H') (r : SqT K H a xs) : SqT K H' a xs := by
  rcases r with r | r
  · exact .inl (same_rd e r)
  · exact .inr r
theorem ObR.mono (l : Le0 K n ρ S H n' ρ' S' H') {a : Addr} {o : O} (h : ObR K n ρ S H a o) (hu : ∀ u, H a = some u → H' a = some u) : ObR K n' ρ' S' H' a o := by
  cases o with
  | lst ds => obtain ⟨z, vs, e, r⟩ := h; exact ⟨z, vs, hu _ e, r.mono0 l⟩
  | rol ds =>
    obtain ⟨z, vs, e, r⟩ := h
    refine ⟨z, vs, ?_, r.mono0 l⟩
    rcases e with ⟨o, e⟩ | e
    · exact .inl ⟨o, hu _ e⟩
    · exact .inr e
  | dic _ lk =>
    obtain ⟨ks, ds, vs, a1, a2, a3, a4, a5, a6, a7⟩ := h
    refine ⟨ks, ds, vs, a1, a2, a3, a4, a5.mono0 l, a6.mono0 l, ?_⟩
    cases lk with
    | false => exact hu _ a7
    | true => obtain ⟨o, a7⟩ := a7; exact ⟨o, hu _ a7⟩
  | ins _ _ => exact h
/-- nothing that was tracked is touched -/
theorem Le0.same (e : Same H H') : Le0 K n ρ S H n ρ S H' := ⟨Nat.le_refl _, fun _ _ => rfl, fun _ _ h => same_sqT e h, fun _ _ h _ t => ⟨.inl (e _ _ h), t⟩, fun _ _ _ h => e _ _ h⟩
theorem Le.same (ok : Ok K n ρ S H) (e : Same H H') : Le K n ρ S H n ρ S H' := ⟨Le0.same e, rfl, fun a h => by obtain ⟨u, hu⟩ := ok.gh a h; rw [hu]; exact e _ _ hu⟩
theorem Ok.same (ok : Ok K n ρ S H) (e : Same H H') : Ok K n ρ S H' :=
  ⟨fun m o h => ⟨(ok.ob m o h).1, ObR.mono (Le0.same e) (ok.ob m o h).2 fun u q => e _ _ q⟩, ok.inj, fun a h => let ⟨u, hu⟩ := ok.gh a h; ⟨u, e _ _ hu⟩, ok.gm⟩
theorem same_upd {p : Addr} {o : HO} (h : H p = none) : Same H (upd H p o) := fun b u e => by rw [upd_ne (ne_of_none e h)]; exact e
/-- a part of the store -/
theorem trk_sub (e : Sto.le S' S) {a : Addr} (t : Trk ρ S' a) : Trk ρ S a := t.elim .inl fun ⟨m, o, q, hm, r⟩ => .inr ⟨m, o, e _ _ q, hm, r⟩
theorem Le.sub (e : Sto.le S' S) : Le K n ρ S H n ρ S' H := ⟨⟨Nat.le_refl _, fun _ _ => rfl, fun _ _ h => h, fun _ _ h _ t => ⟨.inl h, fun z => t (trk_sub e z)⟩, fun _ _ _ h => h⟩, rfl, fun _ _ => rfl⟩
theorem Ok.sub (ok : Ok K n ρ S H) (e : Sto.le S' S) : Ok K n ρ S' H :=
  ⟨fun m o h => ⟨(ok.ob m o (e _ _ h)).1, ObR.mono (Le.sub e).toLe0 (ok.ob m o (e _ _ h)).2 fun u q => q⟩, fun m m' o o' h h' => ok.inj m m' o o' (e _ _ h) (e _ _ h'), ok.gh, fun m o h => ok.gm m o (e _ _ h)⟩
/-- ρ with a new place -/
def rho (ρ : Rho) (n : Nat) (p : Addr) : Rho := ⟨fun m => if m = n then p else ρ m, ρ.gh⟩
theorem rho_same {p : Addr} : rho ρ n p n = p := by show (if n = n then p else ρ n) = p; rw [if_pos rfl]
theorem rho_lt {p : Addr} {m : Nat} (h : m < n) : rho ρ n p m = ρ m := by show (if m = n then p else ρ m) = ρ m; rw [if_neg (Nat.ne_of_lt h)]
theorem Sto.set_same {m : Nat} {o : O} : (S.set m o) m = some o := by unfold Sto.set; rw [if_pos rfl]
theorem Sto.set_ne {m k : Nat} {o : O} (h : k ≠ m) : (S.set m o) k = S k := by unfold Sto.set; rw [if_neg h]
theorem Ok.none_n (ok : Ok K n ρ S H) : S n = none := by
  cases e : S n with
  | none => rfl
  | some o => exact absurd (ok.ob n o e).1 (Nat.lt_irrefl _)
/-- a new list, tracked -/
theorem Le.new (ok : Ok K n ρ S H) {p : Addr} (hp : H p = none) {o : O} {u : HO} : Le K n ρ S H (n + 1) (rho ρ n p) (S.set n o) (upd H p u) :=
  ⟨⟨Nat.le_succ _, fun m h => rho_lt h, fun a xs h => same_sqT (same_upd hp) h, fun a xs h _ t => ⟨.inl (same_upd hp _ _ h), fun z => by
    rcases z with z | ⟨m, q, e, hm, r⟩
    · exact t (.inl z)
    by_cases hn : m = n
    · subst hn
      rw [rho_same] at r
      rw [← r, hp] at h
      cases h
    · rw [Sto.set_ne hn] at e
      rw [rho_lt (ok.ob m q e).1] at r
      exact t (.inr ⟨m, q, e, hm, r⟩)⟩, fun a o' u' h => same_upd hp _ _ h⟩, rfl, fun a h => by obtain ⟨u', hu⟩ := ok.gh a h; rw [hu]; exact same_upd hp _ _ hu⟩
theorem Ok.new (ok : Ok K n ρ S H) {p : Addr} (hp : H p = none) {o : O} {u : HO} (h : ObR K (n + 1) (rho ρ n p) (S.set n o) (upd H p u) p o) : Ok K (n + 1) (rho ρ n p) (S.set n o) (upd H p u) := by
  have l : Le K n ρ S H (n + 1) (rho ρ n p) (S.set n o) (upd H p u) := Le.new ok hp
  have at_ : ∀ m q, (S.set n o) m = some q → (m = n ∧ q = o) ∨ (m < n ∧ S m = some q) := fun m q e => by
    by_cases hn : m = n
    · subst hn
      rw [Sto.set_same] at e
      exact .inl ⟨rfl, (Option.some.inj e).symm⟩
    · rw [Sto.set_ne hn] at e
      exact .inr ⟨(ok.ob m q e).1, e⟩
  refine ⟨fun m q e => ?_, fun m m' q q' e e' hm hm' r => ?_, fun a h => (let ⟨u', hu⟩ := ok.gh a h; ⟨u', same_upd hp _ _ hu⟩), fun m q e hm z => ?_⟩
  · rcases at_ m q e with ⟨rfl, rfl⟩ | ⟨hl, e⟩
    · rw [rho_same]
      exact ⟨Nat.lt_succ_self _, h⟩
    · rw [rho_lt hl]
      exact ⟨Nat.lt_succ_of_lt hl, ObR.mono l.toLe0 (ok.ob m q e).2 fun u z => same_upd hp _ _ z⟩
  · rcases at_ m q e with ⟨rfl, rfl⟩ | ⟨hl, e⟩ <;> rcases at_ m' q' e' with ⟨rfl, rfl⟩ | ⟨hl', e'⟩
    · rfl
    · rw [rho_same, rho_lt hl'] at r
      obtain ⟨u', hu⟩ := Trk.some_of ok (a := p) (.inr ⟨m', q', by assumption, hm', r.symm⟩)
      rw [hp] at hu; cases hu
    · rw [rho_same, rho_lt hl] at r
      obtain ⟨u', hu⟩ := Trk.some_of ok (a := p) (.inr ⟨m, q, by assumption, hm, r⟩)
      rw [hp] at hu; cases hu
    · rw [rho_lt hl, rho_lt hl'] at r
      exact ok.inj m m' q q' e e' hm hm' r
  · rcases at_ m q e with ⟨rfl, rfl⟩ | ⟨hl, e⟩
    · rw [rho_same] at z
      obtain ⟨u', hu⟩ := ok.gh p z
      rw [hp] at hu; cases hu
    · rw [rho_lt hl] at z
      exact ok.gm m q e hm z
/-- a tracked object is written -/
theorem rd_upd {a b : Addr} {u v : HO} (hb : b ≠ a) (r : Rd H b u) : Rd (upd H a v) b u := by
  rcases r with r | ⟨o, r⟩
  · exact .inl (by rw [upd_ne hb]; exact r)
  · exact .inr ⟨o, by rw [upd_ne hb]; exact r⟩
theorem Le.write (ok : Ok K n ρ S H) {m : Nat} {o o' : O} {u u' : HO} (e : S m = some o) (hm : o.mut = true) (ho : o'.mut = true) (hu : H (ρ m) = some u') (nt : ∀ xs, ¬ Rd H (ρ m) (.tup xs)) (nf : ∀ ob w, u' ≠ .frz ob w) : Le K n ρ S H n ρ (S.set m o') (upd H (ρ m) u) :=
  ⟨⟨Nat.le_refl _, fun _ _ => rfl, fun a xs h => by
    rcases h with h | h
    · exact .inl (rd_upd (fun z => nt xs (z ▸ h)) h)
    · exact .inr h, fun a xs h _ t => by
    have hne : a ≠ ρ m := fun z => t (.inr ⟨m, o, e, hm, z.symm⟩)
    refine ⟨.inl (by rw [upd_ne hne]; exact h), fun z => ?_⟩
    rcases z with z | ⟨k, q, e', hk, r⟩
    · exact t (.inl z)
    by_cases hkm : k = m
    · subst hkm; exact hne r.symm
    · rw [Sto.set_ne hkm] at e'
      exact t (.inr ⟨k, q, e', hk, r⟩), fun a o' w h => by
    have hne : a ≠ ρ m := fun z => by rw [z, hu] at h; exact nf _ _ (Option.some.inj h)
    rw [upd_ne hne]; exact h⟩, rfl, fun a h => upd_ne fun z => ok.gm m o e hm (z ▸ h)⟩
theorem Ok.write (ok : Ok K n ρ S H) {m : Nat} {o o' : O} {u u' : HO} (e : S m = some o) (hm : o.mut = true) (ho : o'.mut = true) (hu : H (ρ m) = some u') (nt : ∀ xs, ¬ Rd H (ρ m) (.tup xs)) (nf : ∀ ob w, u' ≠ .frz ob w)
    (h : ObR K n ρ (S.set m o') (upd H (ρ m) u) (ρ m) o') : Ok K n ρ (S.set m o') (upd H (ρ m) u) := by
  have l : Le K n ρ S H n ρ (S.set m o') (upd H (ρ m) u) := Le.write ok e hm ho hu nt nf
  have back : ∀ k q, (S.set m o') k = some q → q.mut = true → ∃ q0, S k = some q0 ∧ q0.mut = true := fun k q e' hq => by
      by_cases hk : k = m
      · subst hk; exact ⟨o, e, hm⟩
      · rw [Sto.set_ne hk] at e'; exact ⟨q, e', hq⟩
  refine ⟨fun k q e' => ?_, fun k k' q q' e1 e2 h1 h2 r => ?_, fun a h => ?_, fun k q e' hk z => (let ⟨q0, a1, a2⟩ := back k q e' hk; ok.gm k q0 a1 a2 z)⟩
  rotate_left 2
  · obtain ⟨u1, hu1⟩ := ok.gh a h
    exact ⟨u1, by rw [upd_ne (fun (z : a = ρ m) => ok.gm m o e hm (z ▸ h))]; exact hu1⟩
  · by_cases hk : k = m
    · subst hk
      rw [Sto.set_same] at e'; cases e'
      exact ⟨(ok.ob _ _ e).1, h⟩
    · rw [Sto.set_ne hk] at e'
      obtain ⟨kn, z⟩ := ok.ob k q e'
      refine ⟨kn, ?_⟩
      cases q with
      | lst ds =>
        have hne : ρ k ≠ ρ m := fun w => hk (ok.inj k m _ o e' e rfl hm w)
        exact ObR.mono l.toLe0 z fun u q => by rw [upd_ne hne]; exact q
      | rol ds =>
        obtain ⟨z1, vs, z2, z3⟩ := z
        refine ⟨z1, vs, ?_, z3.mono l⟩
        rcases z2 with ⟨ob, z2⟩ | z2
        · by_cases hne : ρ k = ρ m
          · rw [hne, hu] at z2; exact absurd (Option.some.inj z2) (nf _ _)
          · exact .inl ⟨ob, by rw [upd_ne hne]; exact z2⟩
        · exact .inr z2
      | dic _ _ =>
        have hne : ρ k ≠ ρ m := fun w => hk (ok.inj k m _ o e' e rfl hm w)
        exact ObR.mono l.toLe0 z fun u q => by rw [upd_ne hne]; exact q
      | ins _ _ => exact z.elim
  · obtain ⟨a1, b1, c1⟩ := back k q e1 h1
    obtain ⟨a2, b2, c2⟩ := back k' q' e2 h2
    exact ok.inj k k' _ _ b1 b2 c1 c2 r
/-- a dict that nobody changes is locked -/
theorem Le.lock (ok : Ok K n ρ S H) {a : Addr} {kvs : List (Key × V)} {od : Obj} (h : H a = some (.dK kvs)) (ht : ¬ Trk ρ S a) : Le K n ρ S H n ρ S (upd H a (.frz od (.dK kvs))) :=
  ⟨⟨Nat.le_refl _, fun _ _ => rfl, fun b xs q => by
    rcases q with q | q
    · refine .inl (rd_upd (fun z => ?_) q)
      subst z
      rcases q with q | ⟨o, q⟩ <;> rw [h] at q <;> cases q
    · exact .inr q, fun b u q v t => by
    by_cases z : b = a
    · subst z
      rw [h] at q; cases q
      exact ⟨.inr ⟨od, kvs, rfl, upd_same⟩, t⟩
    · exact ⟨.inl (by rw [upd_ne z]; exact q), t⟩, fun b o u q => by
    rw [upd_ne (fun z => by rw [z, h] at q; cases q)]; exact q⟩, rfl, fun b hb => upd_ne fun z => ht (.inl (z ▸ hb))⟩
theorem Ok.lock (ok : Ok K n ρ S H) {a : Addr} {kvs : List (Key × V)} {od : Obj} (h : H a = some (.dK kvs)) (ht : ¬ Trk ρ S a) : Ok K n ρ S (upd H a (.frz od (.dK kvs))) := by
  refine ⟨fun m o e => ⟨(ok.ob m o e).1, ?_⟩, ok.inj, fun b hb => ?_, ok.gm⟩
  · have l : Le K n ρ S H n ρ S (upd H a (.frz od (.dK kvs))) := Le.lock ok h ht
    have ob := (ok.ob m o e).2
    have mu : o.mut = true → ∀ u, H (ρ m) = some u → (upd H a (.frz od (.dK kvs))) (ρ m) = some u := fun hm u q => by
      rw [upd_ne (fun z => ht (.inr ⟨m, o, e, hm, z⟩))]; exact q
    cases o with
    | lst ds => exact ObR.mono l.toLe0 ob (mu rfl)
    | rol ds =>
      obtain ⟨z1, vs, z2, z3⟩ := ob
      refine ⟨z1, vs, ?_, z3.mono l⟩
      rcases z2 with ⟨o, z2⟩ | z2
      · exact .inl ⟨o, l.frz _ _ _ z2⟩
      · exact .inr z2
    | dic _ _ => exact ObR.mono l.toLe0 ob (mu rfl)
    | ins _ _ => exact ob
  · by_cases z : b = a
    · subst z; exact ⟨_, upd_same⟩
    · rw [upd_ne z]; exact ok.gh b hb
/-! ### what is being built -/
def Rho.push (ρ : Rho) (d : Addr) : Rho := ⟨ρ.f, d :: ρ.gh⟩
def Rho.pop (ρ : Rho) (g : List Addr) : Rho := ⟨ρ.f, g⟩
def clr (H : Hp) (d : Addr) : Hp := fun a => if a = d then none else H a
theorem clr_ne {d a : Addr} (h : a ≠ d) : clr H d a = H a := if_neg h
theorem clr_same {d : Addr} : clr H d d = none := if_pos rfl
theorem clr_upd {d : Addr} {u : HO} (h : H d = some u) : upd (clr H d) d u = H := by
  funext a
  by_cases e : a = d
  · subst e; rw [upd_same]; exact h.symm
  · rw [upd_ne e, clr_ne e]
theorem Le0.push {d : Addr} (hd : H d = none) {u : HO} : Le0 K n ρ S H n (ρ.push d) S (upd H d u) :=
  ⟨Nat.le_refl _, fun _ _ => rfl, fun a xs h => same_sqT (same_upd hd) h, fun a xs h _ t => ⟨.inl (same_upd hd _ _ h), fun z => by
    rcases z with z | z
    · rcases List.mem_cons.mp z with rfl | z
      · rw [hd] at h; cases h
      · exact t (.inl z)
    · exact t (.inr z)⟩, fun a o' w h => same_upd hd _ _ h⟩
theorem Ok.push (ok : Ok K n ρ S H) {d : Addr} (hd : H d = none) {u : HO} : Ok K n (ρ.push d) S (upd H d u) :=
  ⟨fun m o h => ⟨(ok.ob m o h).1, ObR.mono (Le0.push hd) (ok.ob m o h).2 fun u q => same_upd hd _ _ q⟩, ok.inj, fun a h => by
    rcases List.mem_cons.mp h with rfl | h
    · exact ⟨u, upd_same⟩
    · obtain ⟨u', hu⟩ := ok.gh a h
      exact ⟨u', same_upd hd _ _ hu⟩, fun m o h hm z => by
    rcases List.mem_cons.mp z with z | z
    · obtain ⟨u', hu⟩ := Trk.some_of ok (a := ρ m) (.inr ⟨m, o, h, hm, rfl⟩)
      rw [show ρ.f m = d from z, hd] at hu; cases hu
    · exact ok.gm m o h hm z⟩
/-- a list, a dict: what may be built -/
def Bld (u : HO) : Prop := (∀ xs, u ≠ .tup xs) ∧ ∀ ob w, u ≠ .frz ob w
theorem Bld.nt {d : Addr} {u : HO} (b : Bld u) (h : H d = some u) : ∀ xs, ¬ Rd H d (.tup xs) := fun xs r => by
  rcases r with r | ⟨o, r⟩
  · rw [h] at r; exact b.1 _ (Option.some.inj r)
  · rw [h] at r; exact b.2 _ _ (Option.some.inj r)
theorem Le0.put {d : Addr} (hg : d ∈ ρ.gh) {u u' : HO} (hu : H d = some u) (b : Bld u) : Le0 K n ρ S H n ρ S (upd H d u') :=
  ⟨Nat.le_refl _, fun _ _ => rfl, fun a xs h => by
    rcases h with h | h
    · exact .inl (rd_upd (fun z => b.nt hu xs (z ▸ h)) h)
    · exact .inr h, fun a xs h _ t => ⟨.inl (by rw [upd_ne (fun (z : a = d) => t (.inl (z ▸ hg)))]; exact h), t⟩, fun a o' w h => by
    rw [upd_ne (fun (z : a = d) => by rw [z, hu] at h; exact b.2 _ _ (Option.some.inj h))]; exact h⟩
theorem Ok.ne (ok : Ok K n ρ S H) {d : Addr} (hg : d ∈ ρ.gh) {u : HO} (hu : H d = some u) (b : Bld u) {m : Nat} {o : O} (e : S m = some o) {H' : Hp} (l : Le0 K n ρ S H n' ρ' S' H') (hH : ∀ a, a ≠ d → H' a = H a) : ObR K n' ρ' S' H' (ρ m) o := by
  have ob := (ok.ob m o e).2
  cases o with
  | lst ds =>
    have hne : ρ m ≠ d := fun z => ok.gm m _ e rfl (z ▸ hg)
    exact ObR.mono l ob fun u q => by rw [hH _ hne]; exact q
  | rol ds =>
    obtain ⟨z1, vs, z2, z3⟩ := ob
    refine ⟨z1, vs, ?_, z3.mono0 l⟩
    rcases z2 with ⟨o, z2⟩ | z2
    · by_cases hne : ρ m = d
      · rw [hne, hu] at z2; exact absurd (Option.some.inj z2) (b.2 _ _)
      · exact .inl ⟨o, by rw [hH _ hne]; exact z2⟩
    · exact .inr z2
  | dic _ _ =>
    have hne : ρ m ≠ d := fun z => ok.gm m _ e rfl (z ▸ hg)
    exact ObR.mono l ob fun u q => by rw [hH _ hne]; exact q
  | ins _ _ => exact ob
theorem Ok.put (ok : Ok K n ρ S H) {d : Addr} (hg : d ∈ ρ.gh) {u u' : HO} (hu : H d = some u) (b : Bld u) : Ok K n ρ S (upd H d u') :=
  ⟨fun m o e => ⟨(ok.ob m o e).1, ok.ne hg hu b e (Le0.put hg hu b) fun a z => upd_ne z⟩, ok.inj, fun a h => by
    by_cases z : a = d
    · subst z; exact ⟨u', upd_same⟩
    · rw [upd_ne z]; exact ok.gh a h, ok.gm⟩
theorem Le0.pop {d : Addr} {g : List Addr} (hg : d ∈ ρ.gh) {u : HO} (hu : H d = some u) (b : Bld u) (hs : ∀ a ∈ g, a ∈ ρ.gh) : Le0 K n ρ S H n (ρ.pop g) S (clr H d) :=
  ⟨Nat.le_refl _, fun _ _ => rfl, fun a xs h => by
    rcases h with h | h
    · have hne : a ≠ d := fun z => b.nt hu xs (z ▸ h)
      rcases h with h | ⟨o, h⟩
      · exact .inl (.inl (by rw [clr_ne hne]; exact h))
      · exact .inl (.inr ⟨o, by rw [clr_ne hne]; exact h⟩)
    · exact .inr h, fun a xs h _ t => ⟨.inl (by rw [clr_ne (fun (z : a = d) => t (.inl (z ▸ hg)))]; exact h), fun z => t (z.elim (fun z => .inl (hs _ z)) .inr)⟩, fun a o' w h => by
    rw [clr_ne (fun (z : a = d) => by rw [z, hu] at h; exact b.2 _ _ (Option.some.inj h))]; exact h⟩
theorem Ok.pop (ok : Ok K n ρ S H) {d : Addr} {g : List Addr} (hg : d ∈ ρ.gh) {u : HO} (hu : H d = some u) (b : Bld u) (hs : ∀ a ∈ g, a ∈ ρ.gh) (hd : d ∉ g) : Ok K n (ρ.pop g) S (clr H d) :=
  ⟨fun m o e => ⟨(ok.ob m o e).1, ok.ne hg hu b e (Le0.pop hg hu b hs) fun a z => clr_ne z⟩, ok.inj, fun a h => by
    rw [clr_ne (fun (z : a = d) => hd (z ▸ h))]; exact ok.gh a (hs a h), fun m o e hm z => ok.gm m o e hm (hs _ z)⟩
/-- building: from the base (n, ρ, S, H), where d was free -/
structure Bl (K : PySem.W.Frag) (n : Nat) (ρ : Rho) (S : Sto) (H : Hp) (d : Addr) (n' : Nat) (ρ' : Rho) (S' : Sto) (H' : Hp) : Prop where
  l0 : ∃ u, Le0 K n (ρ.push d) S (upd H d u) n' ρ' S' H'
  gh : ρ'.gh = d :: ρ.gh
  gs : ∀ a ∈ ρ.gh, H' a = H a
theorem Bl.start (ok : Ok K n ρ S H) {d : Addr} (hd : H d = none) {u : HO} : Bl K n ρ S H d n (ρ.push d) S (upd H d u) :=
  ⟨⟨u, Le0.refl⟩, rfl, fun a h => by obtain ⟨u', hu⟩ := ok.gh a h; rw [hu]; exact same_upd hd _ _ hu⟩
theorem Bl.mem {d : Addr} (b : Bl K n ρ S H d n' ρ' S' H') : d ∈ ρ'.gh := by rw [b.gh]; exact List.mem_cons_self
theorem Bl.step {d : Addr} (b : Bl K n ρ S H d n' ρ' S' H') (l : Le K n' ρ' S' H' n'' ρ'' S'' H'') : Bl K n ρ S H d n'' ρ'' S'' H'' :=
  ⟨let ⟨u, h⟩ := b.l0; ⟨u, h.trans l.toLe0⟩, l.hg.trans b.gh, fun a h => (l.gs a (by rw [b.gh]; exact List.mem_cons_of_mem _ h)).trans (b.gs a h)⟩
theorem Bl.put {d : Addr} (ok : Ok K n ρ S H) (hd : H d = none) (b : Bl K n ρ S H d n' ρ' S' H') {u u' : HO} (hu : H' d = some u) (bd : Bld u) : Bl K n ρ S H d n' ρ' S' (upd H' d u') :=
  ⟨let ⟨w, h⟩ := b.l0; ⟨w, h.trans (Le0.put b.mem hu bd)⟩, b.gh, fun a h => by
    have hne : a ≠ d := fun z => by subst z; obtain ⟨u', hu⟩ := ok.gh a h; rw [hd] at hu; cases hu
    rw [upd_ne hne]; exact b.gs a h⟩
/-- built: as if it had just been laid -/
theorem Bl.done {d : Addr} (ok : Ok K n ρ S H) (hd : H d = none) (b : Bl K n ρ S H d n' ρ' S' H') {u : HO} (hu : H' d = some u) (bd : Bld u) (ok' : Ok K n' ρ' S' H') : Le K n ρ S H n' (ρ'.pop ρ.gh) S' (clr H' d) ∧ Ok K n' (ρ'.pop ρ.gh) S' (clr H' d) ∧ Le0 K n' ρ' S' H' n' (ρ'.pop ρ.gh) S' (clr H' d) := by
  have hs : ∀ a ∈ ρ.gh, a ∈ ρ'.gh := fun a h => by rw [b.gh]; exact List.mem_cons_of_mem _ h
  have hdg : d ∉ ρ.gh := fun z => by obtain ⟨u', hu⟩ := ok.gh d z; rw [hd] at hu; cases hu
  obtain ⟨w, h⟩ := b.l0
  have p : Le0 K n' ρ' S' H' n' (ρ'.pop ρ.gh) S' (clr H' d) := Le0.pop b.mem hu bd hs
  refine ⟨⟨((Le0.push hd).trans h).trans p, rfl, fun a h => ?_⟩, ok'.pop b.mem hu bd hs hdg, p⟩
  rw [clr_ne (fun (z : a = d) => hdg (z ▸ h))]; exact b.gs a h
end
end TH
namespace TH
open PySem PySem.Spec PyProof.Rows L2

/-! ### readings: the widest -/
def bR2 (X : Cx) (f : Value → Value → Sem Value) : R2 := fun x y H Q => ∀ (pins : List (Addr × Obj)) (s : Shared) (σ : L2.St) (v u : Value), Inv X pins σ H s → RelV x v → RelV y u → wpAny (model X.prog X.w) X.A (f v u) (EP X pins σ Q) X.xe s
theorem opR_best {X : Cx} {f : Value → Value → Sem Value} : OpR X f (bR2 X f) := fun pins s σ _ _ _ v u _ I rx ry h => h pins s σ v u I rx ry
theorem bR2_of {X : Cx} {f : Value → Value → Sem Value} {r : R2} {x y : V} {H : Hp} {Q : VK} (h : OpR X f r) (q : r x y H Q) : bR2 X f x y H Q := fun pins s σ v u I rx ry => h pins s σ H x y v u Q I rx ry q
def bCl (X : Cx) (f : Value) : List V → Hp → VK → Prop := fun xs H Q => ∀ (pins : List (Addr × Obj)) (s : Shared) (σ : L2.St) (us : List Value), Inv X pins σ H s → Vals xs us → wpAny (model X.prog X.w) X.A (call f us) (EP X pins σ Q) X.xe s
theorem callR_best {X : Cx} {f : Value} : CallR X f (bCl X f) := fun pins s σ _ _ us _ I r h => h pins s σ us I r
theorem bCl_of {X : Cx} {f : Value} {r : List V → Hp → VK → Prop} {xs : List V} {H : Hp} {Q : VK} (h : CallR X f r) (q : r xs H Q) : bCl X f xs H Q := fun pins s σ us I rx => h pins s σ H xs us Q I rx q
theorem PE.imp {X : Cx} {e : Expr} {t t' : TE} (h : PE X e t) (i : ∀ σ H Q, t' σ H Q → t σ H Q) : PE X e t' := ⟨fun pins s σ H Q I q => h.run pins s σ H Q I (i σ H Q q)⟩

/-! ### data as the library's -/
mutual
def toP : D → PyData
  | .bl b => .bool b
  | .int i => .int i
  | .str s => .str s
  | .tup l => .tuple (toPL l)
  | .ilst l => .list (toPL l)
  | _ => .none
def toPL : List D → List PyData
  | [] => []
  | x :: xs => toP x :: toPL xs
end
/-! no refs, no dicts -/
mutual
def D.pl : D → Bool
  | .tup l => D.plL l
  | .ilst l => D.plL l
  | .non => true | .bl _ => true | .int _ => true | .str _ => true
  | _ => false
def D.plL : List D → Bool
  | [] => true
  | x :: xs => D.pl x && D.plL xs
end
mutual
theorem eqv_toP : ∀ (x y : D), x.pl = true → y.pl = true → PyData.eqv (toP x) (toP y) = D.eqv x y
  | .non, y, _, hy => by cases y <;> first | rfl | (simp [D.pl] at hy) | (simp [toP, PyData.eqv, D.eqv])
  | .bl _, y, _, hy => by cases y <;> first | rfl | (simp [D.pl] at hy) | (simp [toP, PyData.eqv, D.eqv])
  | .int _, y, _, hy => by cases y <;> first | rfl | (simp [D.pl] at hy) | (simp [toP, PyData.eqv, D.eqv])
  | .str _, y, _, hy => by cases y <;> first | rfl | (simp [D.pl] at hy) | (simp [toP, PyData.eqv, D.eqv])
  | .tup l, y, hx, hy => by
    cases y with
    | tup l' => simp only [toP, PyData.eqv, D.eqv]; exact eqv_toPL l l' (by simpa [D.pl] using hx) (by simpa [D.pl] using hy)
    | _ => first | rfl | (simp [D.pl] at hy) | (simp [toP, PyData.eqv, D.eqv])
  | .ilst l, y, hx, hy => by
    cases y with
    | ilst l' => simp only [toP, PyData.eqv, D.eqv]; exact eqv_toPL l l' (by simpa [D.pl] using hx) (by simpa [D.pl] using hy)
    | _ => first | rfl | (simp [D.pl] at hy) | (simp [toP, PyData.eqv, D.eqv])
  | .idic _, _, hx, _ => by simp [D.pl] at hx
  | .ref _, _, hx, _ => by simp [D.pl] at hx
  | .exc _ _, _, hx, _ => by simp [D.pl] at hx
theorem eqv_toPL : ∀ (x y : List D), D.plL x = true → D.plL y = true → PyData.eqvAll (toPL x) (toPL y) = D.eqvL x y
  | [], [], _, _ => by simp [toPL, PyData.eqvAll, D.eqvL]
  | [], _ :: _, _, _ => by simp [toPL, PyData.eqvAll, D.eqvL]
  | _ :: _, [], _, _ => by simp [toPL, PyData.eqvAll, D.eqvL]
  | x :: xs, y :: ys, hx, hy => by
    simp only [D.plL, Bool.and_eq_true] at hx hy
    simp only [toPL, PyData.eqvAll, D.eqvL]
    rw [eqv_toP x y hx.1 hy.1, eqv_toPL xs ys hx.2 hy.2]
end
mutual
theorem dep_toP : ∀ (x : D), (toP x).depth = x.dep
  | .non => rfl | .bl _ => rfl | .int _ => rfl | .str _ => rfl | .idic _ => rfl | .ref _ => rfl | .exc _ _ => rfl
  | .tup l => by simp only [toP, PyData.depth, D.dep]; rw [dep_toPL l]
  | .ilst l => by simp only [toP, PyData.depth, D.dep]; rw [dep_toPL l]
theorem dep_toPL : ∀ (x : List D), PyData.depthAll (toPL x) = D.depL x
  | [] => rfl
  | x :: xs => by simp only [toPL, PyData.depthAll, D.depL]; rw [dep_toP x, dep_toPL xs]
end
theorem toPL_any (d : D) (hd : d.pl = true) : ∀ l : List D, D.plL l = true → (toPL l).any (fun y => PyData.eqv y (toP d)) = l.any fun y => D.eqv y d
  | [], _ => rfl
  | x :: xs, h => by
    simp only [D.plL, Bool.and_eq_true] at h
    simp only [toPL, List.any_cons]
    rw [eqv_toP x d h.1 hd, toPL_any d hd xs h.2]

section
variable {K : PySem.W.Frag} {n : Nat} {ρ : Rho} {S : Sto} {H : Hp}
mutual
theorem Rs.pl : ∀ {x x' : D}, Rs S x x' → x'.pl = true
  | _, _, .scl (d := d) h => by cases d <;> first | rfl | cases h
  | _, _, .tup h => by simp only [D.pl]; exact RsL.pl h
  | _, _, .ilst h => by simp only [D.pl]; exact RsL.pl h
  | _, _, .ref _ h => by simp only [D.pl]; exact RsL.pl h
theorem RsL.pl : ∀ {x x' : List D}, RsL S x x' → D.plL x' = true
  | _, _, .nil => rfl
  | _, _, .cons h t => by simp only [D.plL, Bool.and_eq_true]; exact ⟨Rs.pl h, RsL.pl t⟩
end
mutual
theorem Rs.dp (ok : Ok K n ρ S H) : ∀ {x x' : D} {v : V}, Rs S x x' → Rp K n ρ S H x v → Dp K H v (toP x') ∧ (toP x').canLay0 = true
  | _, _, _, .scl (d := d) h, r => by
    cases r with
    | non => exact ⟨.non, rfl⟩
    | bl b => exact ⟨.bl b, rfl⟩
    | int i => exact ⟨.int i, rfl⟩
    | str hs => exact ⟨.str _, hs⟩
    | tup _ _ _ => cases h
    | ilst _ _ _ _ => cases h
    | ref _ => cases h
    | idic _ _ _ _ _ _ _ => cases h
    | tpz _ _ _ _ => cases h
  | _, _, _, .tup h, r => by
    cases r with
    | tup hs z rl =>
      obtain ⟨a, b⟩ := RsL.dp ok h rl
      exact ⟨.tup hs a, b⟩
  | _, _, _, .ilst h, r => by
    cases r with
    | ilst hs z _ rl =>
      obtain ⟨a, b⟩ := RsL.dp ok h rl
      exact ⟨.lst (SqL.of hs) a, b⟩
  | _, _, _, .ref e h, r => by
    cases r with
    | ref hm =>
      obtain ⟨_, z, vs, hv, rl⟩ := ok.ob _ _ e
      obtain ⟨a, b⟩ := RsL.dp ok h rl
      exact ⟨.lst (SqL.of hv) a, b⟩
theorem RsL.dp (ok : Ok K n ρ S H) : ∀ {x x' : List D} {v : List V}, RsL S x x' → RpL K n ρ S H x v → DpAll K H v (toPL x') ∧ PyData.canLayAll0 (toPL x') = true
  | _, _, _, .nil, r => by cases r; exact ⟨.nil, rfl⟩
  | _, _, _, .cons h t, r => by
    cases r with
    | cons r1 r2 =>
      obtain ⟨a, b⟩ := Rs.dp ok h r1
      obtain ⟨c, d⟩ := RsL.dp ok t r2
      exact ⟨.cons a c, by simp only [toPL, PyData.canLayAll0, b, d]; rfl⟩
end
theorem Rs.self_scl {x : D} (h : x.scl = true) : Rs S x x := .scl h
theorem RsL.self_scl : ∀ {l : List D}, l.all D.scl = true → RsL S l l
  | [], _ => .nil
  | x :: xs, h => by
    simp only [List.all_cons, Bool.and_eq_true] at h
    exact .cons (.scl h.1) (RsL.self_scl h.2)
theorem scl_dep {x : D} (h : x.scl = true) : x.dep = 0 := by cases x <;> first | rfl | cases h
theorem eqR_rs {x y : D} {Q : Bool → Prop} (h : eqR x y S Q) : ∃ x' y', Rs S x x' ∧ Rs S y y' ∧ min x'.dep y'.dep ≤ 64 ∧ Q (D.eqv x' y') := by
  unfold eqR at h
  split at h
  · rename_i e
    simp only [Bool.and_eq_true] at e
    exact ⟨x, y, .scl e.1, .scl e.2, by rw [scl_dep e.1]; omega, h⟩
  · exact h
theorem inR_rs {x : D} {l : List D} {Q : Bool → Prop} (h : inR x l S Q) : ∃ x' l', Rs S x x' ∧ RsL S l l' ∧ min x'.dep (D.depL l') ≤ 64 ∧ Q (l'.any fun y => D.eqv y x') := by
  unfold inR at h
  split at h
  · rename_i e
    simp only [Bool.and_eq_true] at e
    exact ⟨x, l, .scl e.1, RsL.self_scl e.2, by rw [scl_dep e.1]; omega, h⟩
  · exact h
/-! ### lists -/
theorem lstOf_ok (ok : Ok K n ρ S H) {d : D} {v : V} {l : List D} (h : lstOf S d = some l) (r : Rp K n ρ S H d v) : ∃ a vs, v = .ref a ∧ SqL K H a vs ∧ RpL K n ρ S H l vs ∧ l.length ≤ SZ := by
  cases r with
  | ilst hs z _ rl =>
    cases h
    exact ⟨_, _, rfl, SqL.of hs, rl, z⟩
  | ref hm =>
    simp only [lstOf] at h
    split at h
    · rename_i l' e
      cases h
      obtain ⟨_, z, vs, hv, rl⟩ := ok.ob _ _ e
      exact ⟨_, vs, rfl, SqL.of hv, rl, z⟩
    · rename_i l' e
      cases h
      obtain ⟨_, z, vs, hv, rl⟩ := ok.ob _ _ e
      exact ⟨_, vs, rfl, hv.sq, rl, z⟩
    · cases h
  | _ => cases h
theorem lstM_ok (ok : Ok K n ρ S H) {d : D} {v : V} {l : List D} (h : lstM S d = some l) (r : Rp K n ρ S H d v) : ∃ a vs, v = .ref a ∧ H a = some (.lst vs) ∧ RpL K n ρ S H l vs ∧ l.length ≤ SZ := by
  cases r with
  | ilst hs z _ rl =>
    cases h
    exact ⟨_, _, rfl, hs, rl, z⟩
  | ref hm =>
    simp only [lstM] at h
    split at h
    · rename_i l' e
      cases h
      obtain ⟨_, z, vs, hv, rl⟩ := ok.ob _ _ e
      exact ⟨_, vs, rfl, hv, rl, z⟩
    · cases h
  | _ => cases h
theorem seqOf_ok (ok : Ok K n ρ S H) {d : D} {v : V} {l : List D} (h : seqOf S d = some l) (r : Rp K n ρ S H d v) : ∃ a vs, v = .ref a ∧ (SqL K H a vs ∨ SqT K H a vs) ∧ RpL K n ρ S H l vs ∧ l.length ≤ SZ := by
  cases r with
  | tup hs z rl =>
    cases h
    exact ⟨_, _, rfl, .inr hs, rl, z⟩
  | ilst hs z ht rl =>
    obtain ⟨a, vs, e, q, r⟩ := lstOf_ok ok (d := .ilst _) h (.ilst hs z ht rl)
    exact ⟨a, vs, e, .inl q, r⟩
  | ref hm =>
    obtain ⟨a, vs, e, q, r⟩ := lstOf_ok ok (d := .ref _) h (.ref hm)
    exact ⟨a, vs, e, .inl q, r⟩
  | _ => cases h
end
/-- what is wanted of a value behind a step -/
abbrev KD (K : PySem.W.Frag) (n : Nat) (ρ : Rho) (S : Sto) (H : Hp) (Qd : D → Sto → Prop) (Q : VK) : Prop :=
  ∀ d S' n' ρ' H' v, Le K n ρ S H n' ρ' S' H' → Ok K n' ρ' S' H' → Rp K n' ρ' S' H' d v → Qd d S' → Q v H'
section
variable {K : PySem.W.Frag} {n : Nat} {ρ : Rho} {S : Sto} {H : Hp} {Qd : D → Sto → Prop} {Q : VK}
theorem KD.here (k : KD K n ρ S H Qd Q) (ok : Ok K n ρ S H) {d : D} {v : V} (r : Rp K n ρ S H d v) (q : Qd d S) : Q v H := k d S n ρ H v Le.refl ok r q
theorem newT_ok (ok : Ok K n ρ S H) (k : KD K n ρ S H Qd Q) {l : List D} {vs : List V} (r : RpL K n ρ S H l vs) (z : l.length ≤ SZ) (q : Qd (.tup l) S) : ∀ p, H p = none → Q (.ref p) (upd H p (.tup vs)) := fun p hp =>
  k _ S n ρ _ _ (Le.same ok (same_upd hp)) (ok.same (same_upd hp)) (.tup (SqT.of upd_same) z (r.mono (Le.same ok (same_upd hp)))) q
theorem newL_ok (ok : Ok K n ρ S H) (k : KD K n ρ S H Qd Q) {fl : Bool} {l : List D} {vs : List V} (r : RpL K n ρ S H l vs) (z : l.length ≤ SZ) (q : newL fl l S Qd) : ∀ p, H p = none → Q (.ref p) (upd H p (.lst vs)) := fun p hp => by
  unfold newL at q
  cases fl with
  | false =>
    refine k _ S n ρ _ _ (Le.same ok (same_upd hp)) (ok.same (same_upd hp)) (.ilst upd_same z (fun t => ?_) (r.mono (Le.same ok (same_upd hp)))) q
    obtain ⟨u, e⟩ := t.some_of ok
    rw [hp] at e; cases e
  | true =>
    have l' : Le K n ρ S H (n + 1) (rho ρ n p) (S.set n (.lst l)) (upd H p (.lst vs)) := Le.new ok hp
    have q' := q n ok.none_n
    refine k _ _ (n + 1) (rho ρ n p) _ _ l' (Ok.new ok hp ⟨z, vs, upd_same, r.mono l'⟩) ?_ q'
    have : Rp K (n + 1) (rho ρ n p) (S.set n (.lst l)) (upd H p (.lst vs)) (.ref n) (.ref (rho ρ n p n)) := .ref (Nat.lt_succ_self _)
    rw [rho_same] at this
    exact this
end
section
variable {X : Cx} {n : Nat} {ρ : Rho} {S : Sto} {H : Hp} {Qd : D → Sto → Prop} {Q : VK}
/-! ### == -/
theorem op_eqP (hu : X.A.units + 70 < cLine) : OpR X (compareOp .Eq) (fun x y H Q => ∃ d e, Dp X.K H x d ∧ Dp X.K H y e ∧ d.canLay0 = true ∧ e.canLay0 = true ∧ min d.depth e.depth ≤ 64 ∧ Q (.bl (PyData.eqv d e)) H) := by
  intro pins s σ H x y v u Q I rx ry h
  obtain ⟨d, e, hd, he, sd, se, hm, q⟩ := h
  obtain ⟨as, r1⟩ := Dp.reads I d x v hd rx
  obtain ⟨bs, r2⟩ := Dp.reads I e y u he ry
  exact SeqAt.compareEq_reads r1 r2 sd se (by omega) ⟨.bl _, H, I, rfl, q⟩
theorem op_neP (hu : X.A.units + 70 < cLine) : OpR X (compareOp .NotEq) (fun x y H Q => ∃ d e, Dp X.K H x d ∧ Dp X.K H y e ∧ d.canLay0 = true ∧ e.canLay0 = true ∧ min d.depth e.depth ≤ 64 ∧ Q (.bl (!PyData.eqv d e)) H) := by
  intro pins s σ H x y v u Q I rx ry h
  obtain ⟨d, e, hd, he, sd, se, hm, q⟩ := h
  obtain ⟨as, r1⟩ := Dp.reads I d x v hd rx
  obtain ⟨bs, r2⟩ := Dp.reads I e y u he ry
  exact SeqAt.compareNe_reads r1 r2 sd se (by omega) ⟨.bl _, H, I, rfl, q⟩
theorem op_inP (hu : X.A.units + 70 < cLine) : OpR X (compareOp .In) (fun x y H Q => ∃ d p xs es, Dp X.K H x d ∧ y = .ref p ∧ (SqL X.K H p xs ∨ SqT X.K H p xs) ∧ DpAll X.K H xs es ∧ d.canLay0 = true ∧ PyData.canLayAll0 es = true ∧ min (PyData.depthAll es) d.depth ≤ 64 ∧
    Q (.bl (es.any fun z => PyData.eqv z d)) H) := by
  intro pins s σ H x y v u Q I rx ry h
  obtain ⟨d, p, xs, es, hd, rfl, hs, he, sd, se, hm, q⟩ := h
  obtain ⟨as, r1⟩ := Dp.reads I d x v hd rx
  rcases hs with hs | hs
  · obtain ⟨bs, r2⟩ := Dp.reads I (.list es) (.ref p) u (.lst hs he) ry
    exact SeqAt.in_list_reads r2 r1 se sd (by omega) ⟨.bl _, H, I, rfl, q⟩
  · obtain ⟨bs, r2⟩ := Dp.reads I (.tuple es) (.ref p) u (.tup hs he) ry
    exact SeqAt.in_tuple_reads r2 r1 se sd (by omega) ⟨.bl _, H, I, rfl, q⟩
theorem op_ninP (hu : X.A.units + 70 < cLine) : OpR X (compareOp .NotIn) (fun x y H Q => ∃ d p xs es, Dp X.K H x d ∧ y = .ref p ∧ (SqL X.K H p xs ∨ SqT X.K H p xs) ∧ DpAll X.K H xs es ∧ d.canLay0 = true ∧ PyData.canLayAll0 es = true ∧ min (PyData.depthAll es) d.depth ≤ 64 ∧
    Q (.bl (!es.any fun z => PyData.eqv z d)) H) := by
  intro pins s σ H x y v u Q I rx ry h
  obtain ⟨d, p, xs, es, hd, rfl, hs, he, sd, se, hm, q⟩ := h
  obtain ⟨as, r1⟩ := Dp.reads I d x v hd rx
  rcases hs with hs | hs
  · obtain ⟨bs, r2⟩ := Dp.reads I (.list es) (.ref p) u (.lst hs he) ry
    exact SeqAt.notIn_list_reads r2 r1 se sd (by omega) ⟨.bl _, H, I, rfl, q⟩
  · obtain ⟨bs, r2⟩ := Dp.reads I (.tuple es) (.ref p) u (.tup hs he) ry
    exact SeqAt.notIn_tuple_reads r2 r1 se sd (by omega) ⟨.bl _, H, I, rfl, q⟩
def opOf : BOp → Operator
  | .add => .Add | .sub => .Sub | .mul => .Mult | .fdiv => .FloorDiv | .mod => .Mod | .pow => .Pow
def copOf : COp → CmpOp
  | .eq => .Eq | .ne => .NotEq | .lt => .Lt | .le => .LtE | .gt => .Gt | .ge => .GtE | .is => .Is | .isn => .IsNot | .inn => .In | .nin => .NotIn
theorem strOk_app {a b : Str} (h1 : PyData.strOk a = true) (h2 : PyData.strOk b = true) : PyData.strOk (a ++ b) = true := by
  have e : (a ++ b).cps = a.cps ++ b.cps := rfl
  unfold PyData.strOk at *
  rw [e, Array.all_append, h1, h2]
  rfl
theorem lst_add (ok : Ok X.K n ρ S H) (k : KD X.K n ρ S H Qd Q) {fl : Bool} {x y : D} {vx vy : V} (rx : Rp X.K n ρ S H x vx) (ry : Rp X.K n ρ S H y vy)
    (h : match lstM S x, lstM S y with
      | some a, some b => a.length + b.length ≤ SZ ∧ newL fl (a ++ b) S Qd
      | _, _ => False) : bR2 X (binaryOp .Add) vx vy H Q := by
  split at h
  · rename_i a b ea eb
    obtain ⟨z, q⟩ := h
    obtain ⟨pa, vs, rfl, ha, ra, _⟩ := lstM_ok ok ea rx
    obtain ⟨pb, us, rfl, hb, rb, _⟩ := lstM_ok ok eb ry
    refine bR2_of op_cat ⟨pa, pb, vs, us, rfl, rfl, ha, hb, ?_, newL_ok ok k (ra.append rb) (by simpa using z) q⟩
    rw [← ra.length, ← rb.length]
    exact z
  · exact h.elim
theorem binR_ok (ok : Ok X.K n ρ S H) (k : KD X.K n ρ S H Qd Q) {op : BOp} {fl : Bool} {x y : D} {vx vy : V} (rx : Rp X.K n ρ S H x vx) (ry : Rp X.K n ρ S H y vy) (h : binR op fl x y S Qd) : bR2 X (binaryOp (opOf op)) vx vy H Q := by
  cases op with
  | add =>
    cases rx with
    | int i =>
      cases ry with
      | int j => exact bR2_of op_add ⟨i, j, rfl, rfl, k.here ok (.int _) h⟩
      | _ => exact False.elim (by simpa [binR, lstM] using h)
    | str hx =>
      cases ry with
      | str hy => exact bR2_of op_add_str ⟨_, _, rfl, rfl, h.1, k.here ok (.str (strOk_app hx hy)) h.2⟩
      | _ => exact False.elim (by simpa [binR, lstM] using h)
    | @tup pa ds vs hx zx rlx =>
      cases ry with
      | @tup pb es us hy zy rly =>
        refine bR2_of op_catA ⟨_, _, _, _, rfl, rfl, hx, hy, by rw [← rlx.length, ← rly.length]; exact h.1, fun e => ?_, fun e1 e2 => ?_, fun _ _ => newT_ok ok k (rlx.append rly) (by simpa using h.1) h.2⟩
        · have e' : ds = [] := List.eq_nil_of_length_eq_zero (by rw [rlx.length, e]; rfl)
          subst e'
          exact k.here ok (.tup hy zy rly) h.2
        · have e' : es = [] := List.eq_nil_of_length_eq_zero (by rw [rly.length, e2]; rfl)
          subst e'
          have q := h.2
          rw [List.append_nil] at q
          exact k.here ok (.tup hx zx rlx) q
      | _ => exact False.elim (by simpa [binR, lstM] using h)
    | ilst hx zx tx rlx => exact lst_add ok k (fl := fl) (.ilst hx zx tx rlx) ry (by cases ry <;> exact h)
    | ref hm => exact lst_add ok k (fl := fl) (.ref hm) ry (by cases ry <;> exact h)
    | _ => exact False.elim (by cases ry <;> simpa [binR, lstM] using h)
  | sub => cases rx <;> cases ry <;> first | exact False.elim h | exact bR2_of op_sub ⟨_, _, rfl, rfl, k.here ok (.int _) h⟩
  | mul => cases rx <;> cases ry <;> first | exact False.elim h | exact bR2_of op_mul ⟨_, _, rfl, rfl, h.1, k.here ok (.int _) h.2⟩
  | fdiv => cases rx <;> cases ry <;> first | exact False.elim h | exact bR2_of op_fdiv ⟨_, _, rfl, rfl, ⟨h.1, h.2.1⟩, k.here ok (.int _) h.2.2⟩
  | mod => cases rx <;> cases ry <;> first | exact False.elim h | exact bR2_of op_mod ⟨_, _, rfl, rfl, h.1, k.here ok (.int _) h.2⟩
  | pow => cases rx <;> cases ry <;> first | exact False.elim h | exact bR2_of op_pow ⟨_, _, rfl, rfl, ⟨h.1.1, Int.le_trans h.1.2.1 (by decide), h.1.2.2⟩, k.here ok (.int _) h.2⟩
end
end TH
namespace TH
open PySem PySem.Spec PyProof.Rows L2
section
variable {X : Cx} {n : Nat} {ρ : Rho} {S : Sto} {H : Hp} {Qd : D → Sto → Prop} {Q : VK}
theorem mem_seq (hu : X.A.units + 70 < cLine) (ok : Ok X.K n ρ S H) {x y : D} {vx vy : V} {l : List D} (e : seqOf S y = some l) (rx : Rp X.K n ρ S H x vx) (ry : Rp X.K n ρ S H y vy) :
    (∀ {Qb : Bool → Prop}, (∀ b, Qb b → Q (.bl b) H) → inR x l S Qb → bR2 X (compareOp .In) vx vy H Q) ∧ (∀ {Qb : Bool → Prop}, (∀ b, Qb b → Q (.bl (!b)) H) → inR x l S Qb → bR2 X (compareOp .NotIn) vx vy H Q) := by
  obtain ⟨a, vs, rfl, hs, rl, _⟩ := seqOf_ok ok e ry
  constructor
  · intro Qb k h
    obtain ⟨x', l', h1, h2, hm, q⟩ := inR_rs h
    obtain ⟨d1, c1⟩ := Rs.dp ok h1 rx
    obtain ⟨d2, c2⟩ := RsL.dp ok h2 rl
    refine bR2_of (op_inP hu) ⟨toP x', a, vs, toPL l', d1, rfl, hs, d2, c1, c2, by rw [dep_toP, dep_toPL]; omega, ?_⟩
    rw [toPL_any x' h1.pl l' h2.pl]
    exact k _ q
  · intro Qb k h
    obtain ⟨x', l', h1, h2, hm, q⟩ := inR_rs h
    obtain ⟨d1, c1⟩ := Rs.dp ok h1 rx
    obtain ⟨d2, c2⟩ := RsL.dp ok h2 rl
    refine bR2_of (op_ninP hu) ⟨toP x', a, vs, toPL l', d1, rfl, hs, d2, c1, c2, by rw [dep_toP, dep_toPL]; omega, ?_⟩
    rw [toPL_any x' h1.pl l' h2.pl]
    exact k _ q
/-! ### dicts -/
theorem kD_inj {a b : Key} (e : kD a = kD b) : a = b := by
  cases a <;> cases b <;> cases e <;> rfl
theorem kS_key {x : D} {v : V} (h : x.kS = true) (r : Rp X.K n ρ S H x v) : ∃ k, x = kD k ∧ v = kV k := by
  cases r with
  | int i => exact ⟨.inl i, rfl, rfl⟩
  | str h => exact ⟨.inr _, rfl, rfl⟩
  | _ => cases h
theorem getK_val : ∀ {ks : List Key} {ds : List D} {vs : List V}, ks.length = ds.length → RpL X.K n ρ S H ds vs → ∀ k : Key,
    (getK (kD k) ((ks.map kD).zip ds) = none ∧ valV (ks.zip vs) k = none) ∨ ∃ d v, getK (kD k) ((ks.map kD).zip ds) = some d ∧ valV (ks.zip vs) k = some v ∧ Rp X.K n ρ S H d v
  | [], _, _, _, _, k => .inl ⟨rfl, rfl⟩
  | a :: ks, [], _, el, _, k => by cases el
  | a :: ks, d :: ds, _, el, .cons (v := v) (vs := vs) h t, k => by
    have ih := getK_val (Nat.succ.inj el) t k
    by_cases e : a = k
    · subst e
      exact .inr ⟨d, v, by show (if kD a = kD a then some d else _) = _; rw [if_pos rfl], valV_pos rfl, h⟩
    · have e1 : getK (kD k) (((a :: ks).map kD).zip (d :: ds)) = getK (kD k) ((ks.map kD).zip ds) := by
        show (if kD a = kD k then some d else _) = _
        rw [if_neg fun z => e (kD_inj z)]; rfl
      have e2 : valV ((a :: ks).zip (v :: vs)) k = valV (ks.zip vs) k := valV_neg e
      rw [e1, e2]; exact ih
theorem dicOf_ok (ok : Ok X.K n ρ S H) {y : D} {vy : V} {l : List (D × D)} (e : dicOf S y = some l) (ry : Rp X.K n ρ S H y vy) : ∃ (a : Addr) (ks : List Key) (ds : List D) (vs : List V), vy = .ref a ∧ Rd H a (.dK (ks.zip vs)) ∧ l = (ks.map kD).zip ds ∧ ks.length = ds.length ∧ RpL X.K n ρ S H ds vs ∧ ks.length ≤ SZ ∧ ks.Nodup ∧ RpL X.K n ρ S H (ks.map kD) (ks.map kV) := by
  cases ry with
  | ref hm =>
    simp only [dicOf] at e
    split at e
    · rename_i l lk e'
      obtain ⟨ks, ds, vs, a1, a2, a3, a4, a5, a6, a7⟩ := (ok.ob _ _ e').2
      cases e
      refine ⟨_, ks, ds, vs, rfl, ?_, a1, a2, a6, a4, a3, a5⟩
      cases lk with
      | false => exact .inl a7
      | true => obtain ⟨o, a7⟩ := a7; exact .inr ⟨o, a7⟩
    · cases e
  | idic h z el nd ht rk r => cases e; exact ⟨_, _, _, _, rfl, h, rfl, el, r, z, nd, rk⟩
  | _ => cases e
theorem dget_of (ok : Ok X.K n ρ S H) {x y : D} {vx vy : V} {l : List (D × D)} (e : dicOf S y = some l) (hk : x.kS = true) (rx : Rp X.K n ρ S H x vx) (ry : Rp X.K n ρ S H y vy) : ∃ a, vy = .ref a ∧
    ((getK x l = none ∧ DGet H a vx none) ∨ ∃ d v, getK x l = some d ∧ DGet H a vx (some v) ∧ Rp X.K n ρ S H d v) := by
  obtain ⟨a, ks, ds, vs, rfl, h, rfl, el, r, _⟩ := dicOf_ok ok e ry
  obtain ⟨k, rfl, rfl⟩ := kS_key hk rx
  refine ⟨a, rfl, ?_⟩
  rcases getK_val el r k with ⟨e1, e2⟩ | ⟨d, v, e1, e2, r⟩
  · exact .inl ⟨e1, .inl ⟨_, k, h, rfl, e2.symm⟩⟩
  · exact .inr ⟨d, v, e1, .inl ⟨_, k, h, rfl, e2.symm⟩, r⟩
theorem in_dict (hu : X.A.units + 70 < cLine) {a : Addr} {x : V} {o : Option V} {b : Bool} (g : DGet H a x o) (e : o.isSome = b) (q : Q (.bl b) H) : bR2 X (compareOp .In) x (.ref a) H Q := by
  intro pins s σ v u I rx ry
  cases ry
  exact d_in (by omega) I g rx fun s' I' => ⟨.bl b, H, I', by rw [e]; rfl, q⟩
theorem nin_dict (hu : X.A.units + 70 < cLine) {a : Addr} {x : V} {o : Option V} {b : Bool} (g : DGet H a x o) (e : o.isSome = b) (q : Q (.bl (!b)) H) : bR2 X (compareOp .NotIn) x (.ref a) H Q := by
  intro pins s σ v u I rx ry
  cases ry
  exact d_notIn (by omega) I g rx fun s' I' => ⟨.bl (!b), H, I', by rw [e]; rfl, q⟩
theorem memR_ok (hu : X.A.units + 70 < cLine) (ok : Ok X.K n ρ S H) {x y : D} {vx vy : V} (rx : Rp X.K n ρ S H x vx) (ry : Rp X.K n ρ S H y vy) :
    (∀ {Qb : Bool → Prop}, (∀ b, Qb b → Q (.bl b) H) → memR x y S Qb → bR2 X (compareOp .In) vx vy H Q) ∧ (∀ {Qb : Bool → Prop}, (∀ b, Qb b → Q (.bl (!b)) H) → memR x y S Qb → bR2 X (compareOp .NotIn) vx vy H Q) := by
  have gen : ∀ {Qb : Bool → Prop}, (match seqOf S y with
      | some l => inR x l S Qb
      | none => match dicOf S y with
        | some l => x.kS = true ∧ Qb (getK x l).isSome
        | none => False) → (∃ l, seqOf S y = some l ∧ inR x l S Qb) ∨ ∃ a o b, vy = .ref a ∧ DGet H a vx o ∧ o.isSome = b ∧ Qb b := fun {Qb} h => by
    split at h
    · rename_i l e; exact .inl ⟨l, e, h⟩
    · split at h
      · rename_i l e
        obtain ⟨a, ea, g⟩ := dget_of ok e h.1 rx ry
        rcases g with ⟨g1, g2⟩ | ⟨d, v, g1, g2, _⟩
        · exact .inr ⟨a, none, false, ea, g2, rfl, by have := h.2; rw [g1] at this; exact this⟩
        · exact .inr ⟨a, some v, true, ea, g2, rfl, by have := h.2; rw [g1] at this; exact this⟩
      · exact h.elim
  have str : ∀ {Qb : Bool → Prop} {b : Str}, y = .str b → memR x y S Qb → ∃ c, x = .str ⟨#[c]⟩ ∧ Qb (decide (c ∈ b.cps.toList)) := fun {Qb b} e h => by
    subst e
    cases x with
    | str a => obtain ⟨c, e, q⟩ := h; exact ⟨c, by rw [e], q⟩
    | _ => exact False.elim h
  have gen' : ∀ {Qb : Bool → Prop}, (∀ b, y ≠ .str b) → memR x y S Qb → (∃ l, seqOf S y = some l ∧ inR x l S Qb) ∨ ∃ a o b, vy = .ref a ∧ DGet H a vx o ∧ o.isSome = b ∧ Qb b := fun {Qb} hy h => by
    apply gen
    cases y with
    | str b => exact absurd rfl (hy b)
    | _ => cases x <;> exact h
  constructor
  · intro Qb k h
    by_cases hy : ∃ b, y = .str b
    · obtain ⟨b, rfl⟩ := hy
      obtain ⟨c, rfl, q⟩ := str rfl h
      cases rx; cases ry
      exact bR2_of op_in_sign ⟨c, b, rfl, rfl, k _ q⟩
    · rcases gen' (fun b z => hy ⟨b, z⟩) h with ⟨l, e, h'⟩ | ⟨a, o, b, rfl, g, eo, q⟩
      · exact (mem_seq hu ok e rx ry).1 k h'
      · exact in_dict hu g eo (k _ q)
  · intro Qb k h
    by_cases hy : ∃ b, y = .str b
    · obtain ⟨b, rfl⟩ := hy
      obtain ⟨c, rfl, q⟩ := str rfl h
      cases rx; cases ry
      exact bR2_of op_notIn_sign ⟨c, b, rfl, rfl, k _ q⟩
    · rcases gen' (fun b z => hy ⟨b, z⟩) h with ⟨l, e, h'⟩ | ⟨a, o, b, rfl, g, eo, q⟩
      · exact (mem_seq hu ok e rx ry).2 k h'
      · exact nin_dict hu g eo (k _ q)
theorem cmpR_ok (hu : X.A.units + 70 < cLine) (ok : Ok X.K n ρ S H) {op : COp} {x y : D} {vx vy : V} (rx : Rp X.K n ρ S H x vx) (ry : Rp X.K n ρ S H y vy) {Qb : Bool → Prop} (k : ∀ b, Qb b → Q (.bl b) H)
    (h : cmpR op x y S Qb) : bR2 X (compareOp (copOf op)) vx vy H Q := by
  cases op with
  | eq =>
    obtain ⟨x', y', h1, h2, hm, q⟩ := eqR_rs (show eqR x y S Qb from h)
    obtain ⟨d1, c1⟩ := Rs.dp ok h1 rx
    obtain ⟨d2, c2⟩ := Rs.dp ok h2 ry
    refine bR2_of (op_eqP hu) ⟨toP x', toP y', d1, d2, c1, c2, by rw [dep_toP, dep_toP]; exact hm, ?_⟩
    rw [eqv_toP x' y' h1.pl h2.pl]
    exact k _ q
  | ne =>
    obtain ⟨x', y', h1, h2, hm, q⟩ := eqR_rs (show eqR x y S (fun b => Qb (!b)) from h)
    obtain ⟨d1, c1⟩ := Rs.dp ok h1 rx
    obtain ⟨d2, c2⟩ := Rs.dp ok h2 ry
    refine bR2_of (op_neP hu) ⟨toP x', toP y', d1, d2, c1, c2, by rw [dep_toP, dep_toP]; exact hm, ?_⟩
    rw [eqv_toP x' y' h1.pl h2.pl]
    exact k _ q
  | lt => cases rx <;> cases ry <;> first | exact False.elim h | exact bR2_of op_lt ⟨_, _, rfl, rfl, k _ h⟩ | exact bR2_of op_lt_str ⟨_, _, rfl, rfl, k _ h⟩
  | le => cases rx <;> cases ry <;> first | exact False.elim h | exact bR2_of op_le ⟨_, _, rfl, rfl, k _ h⟩
  | gt => cases rx <;> cases ry <;> first | exact False.elim h | exact bR2_of op_gt ⟨_, _, rfl, rfl, k _ h⟩
  | ge => cases rx <;> cases ry <;> first | exact False.elim h | exact bR2_of op_ge ⟨_, _, rfl, rfl, k _ h⟩ | exact bR2_of op_ge_str ⟨_, _, rfl, rfl, k _ h⟩
  | is =>
    cases ry with
    | non =>
      refine bR2_of op_isN ⟨rfl, ?_⟩
      have := k _ h
      cases rx <;> exact this
    | bl b => cases rx <;> first | exact False.elim h | exact bR2_of op_is_bl ⟨_, _, rfl, rfl, k _ h⟩
    | _ => exact False.elim h
  | isn =>
    cases ry with
    | non =>
      refine bR2_of op_notN ⟨rfl, ?_⟩
      have := k _ h
      cases rx <;> exact this
    | bl b => cases rx <;> first | exact False.elim h | exact bR2_of op_isnot_bl ⟨_, _, rfl, rfl, k _ h⟩
    | _ => exact False.elim h
  | inn => exact (memR_ok hu ok rx ry).1 k h
  | nin => exact (memR_ok hu ok rx ry).2 (Qb := fun b => Qb (!b)) (fun b q => k _ q) h
/-! ### items, slices -/
def bIx (X : Cx) : R2 := fun x y H Q => ∀ (value slice : Expr) (pins : List (Addr × Obj)) (s : Shared) (σ : L2.St) (v u : Value), Inv X pins σ H s → RelV x v → RelV y u →
    subscripted slice false v u = operate [v, u] (getItem v u) → wpAny (model X.prog X.w) X.A (subscriptTail value slice v u) (EP X pins σ Q) X.xe s
theorem ixR_best : IxR X (bIx X) := fun value slice pins s σ _ _ _ v u _ I rx ry h e => h value slice pins s σ v u I rx ry e
theorem bIx_of {r : R2} {x y : V} (h : IxR X r) (q : r x y H Q) : bIx X x y H Q := fun value slice pins s σ v u I rx ry e => h value slice pins s σ H x y v u Q I rx ry q e
theorem ixD_ixN (m : Nat) (i : Int) : ixD m i = ixN m i := rfl
theorem ix_dict (hu : X.A.units + 70 < cLine) {a : Addr} {y v : V} (g : DGet H a y (some v)) (q : Q v H) : bIx X (.ref a) y H Q := by
  intro value slice pins s σ o i I rx ry hs
  cases rx
  have hT := dict_typeIs I g
  unfold subscriptTail
  refine wpAny_bind ?_
  rw [getitemInPython_of_ne hT.not_modules]
  refine wpAny_bind (wpAny_specialOf hT PySem.F.slot_dict_getitem.lookup ?_)
  have fin : wpAny (model X.prog X.w) X.A (subscripted slice false (.ref a) i) (fun r s₃ => wpAny (model X.prog X.w) X.A (letTemporaryGo value (.ref a) r >>= fun _ => pure r) (EP X pins σ Q) X.xe s₃) X.xe s := by
    rw [hs]
    exact wpAny_operating (wpAny_mono (d_getItem (by omega) I g ry fun w' s3 I3 rw' => (⟨v, H, I3, rw', q⟩ : EP X pins σ Q w' s3)) (fun r s₃ h₃ => wpAny_bind (wpAny_letTemporaryGo (wpAny_pure h₃))) fun _ _ x => x)
  first
    | exact wpAny_pure (wpAny_bind fin)
    | exact wpAny_bind (wpAny_pure (wpAny_bind fin))
    | exact wpAny_bind fin
theorem idxR_ok (hu : X.A.units + 70 < cLine) (ok : Ok X.K n ρ S H) (k : KD X.K n ρ S H Qd Q) {x y : D} {vx vy : V} (rx : Rp X.K n ρ S H x vx) (ry : Rp X.K n ρ S H y vy) (h : idxR x y S Qd) : bIx X vx vy H Q := by
  unfold idxR at h
  split at h
  · rename_i l e
    obtain ⟨a, vs, rfl, hs, rl, _⟩ := seqOf_ok ok e rx
    cases ry with
    | int i =>
      simp only at h
      split at h
      · rename_i d ed
        obtain ⟨j, ej, eg⟩ := Option.bind_eq_some_iff.mp ed
        obtain ⟨v, hv, rv⟩ := rl.get eg
        have ha : atI vs i = some v := by
          unfold atI
          rw [← ixD_ixN, ← rl.length, ej]
          exact hv
        rcases hs with hs | hs
        · exact bIx_of ix_list ⟨a, vs, i, v, rfl, rfl, hs, ha, k.here ok rv h⟩
        · exact bIx_of ix_tup ⟨a, vs, i, v, rfl, rfl, hs, ha, k.here ok rv h⟩
      · exact h.elim
    | _ => exact False.elim h
  · split at h
    · rename_i l e
      obtain ⟨a, rfl, g⟩ := dget_of ok e h.1 ry rx
      rcases g with ⟨g1, g2⟩ | ⟨d, v, g1, g2, r⟩
      · have := h.2; rw [g1] at this; exact this.elim
      · have := h.2; rw [g1] at this
        exact ix_dict hu g2 (k.here ok r this)
    · exact h.elim
def bSl (X : Cx) : V → Option Int → Option Int → Hp → VK → Prop := fun x lo hi H Q => ∀ (pins : List (Addr × Obj)) (s : Shared) (σ : L2.St) (v vl vu : Value) (sl : Addr), Inv X pins σ H s → RelV x v → s.heap.IsSliceOf sl vl vu .none → IsPart vl lo → IsPart vu hi →
    ∃ T id, typeLookup (.type T) "__getitem__" = pure (some (.builtin id)) ∧ s.TypeIs v T ∧ wpAny (model X.prog X.w) X.A (getItem v (.ref sl)) (EP X pins σ Q) X.xe s
theorem slR_best : SlR X (bSl X) := fun pins s σ _ _ v vl vu _ _ sl _ I rx hs pl pu h => h pins s σ v vl vu sl I rx hs pl pu
theorem bSl_of {r : V → Option Int → Option Int → Hp → VK → Prop} {x : V} {lo hi : Option Int} (h : SlR X r) (q : r x lo hi H Q) : bSl X x lo hi H Q := fun pins s σ v vl vu sl I rx hs pl pu => h pins s σ H x v vl vu lo hi sl Q I rx hs pl pu q
theorem slB_eq (m d : Nat) (o : Option Int) : slB m d o = HT.sIx m d o := by cases o <;> rfl
theorem cut_ok {l : List D} {vs : List V} (r : RpL X.K n ρ S H l vs) (lo hi : Option Int) : RpL X.K n ρ S H (cutD l lo hi) (cutV vs lo hi) := by
  unfold cutD cutV
  rw [slB_eq, slB_eq, ← r.length]
  exact (r.drop _).take _
theorem cut_le (l : List D) (lo hi : Option Int) : (cutD l lo hi).length ≤ l.length := by
  unfold cutD
  rw [List.length_take, List.length_drop]
  omega
theorem slcR_ok (ok : Ok X.K n ρ S H) (k : KD X.K n ρ S H Qd Q) {fl : Bool} {x : D} {vx : V} {lo hi : Option Int} (rx : Rp X.K n ρ S H x vx) (h : slcR fl x lo hi S Qd) : bSl X vx lo hi H Q := by
  have lst : (match lstOf S x with
      | some l => newL fl (cutD l lo hi) S Qd
      | none => False) → bSl X vx lo hi H Q := fun h => by
    split at h
    · rename_i l e
      obtain ⟨a, vs, rfl, hs, rl, z⟩ := lstOf_ok ok e rx
      exact bSl_of sl_list ⟨a, vs, rfl, hs, newL_ok ok k (cut_ok rl lo hi) (Nat.le_trans (cut_le l lo hi) z) h⟩
    · exact h.elim
  cases rx with
  | @tup a l vs hs z rl =>
    have h : Qd (.tup (cutD l lo hi)) S := h
    refine bSl_of sl_tupA ⟨a, vs, rfl, hs, fun ⟨e1, e2⟩ => ?_, fun _ => newT_ok ok k (cut_ok rl lo hi) (Nat.le_trans (cut_le l lo hi) z) h⟩
    have e : cutD l lo hi = l := by
      unfold cutD
      rw [slB_eq, slB_eq, rl.length, e1, e2]
      simp [← rl.length]
    rw [e] at h
    exact k.here ok (.tup hs z rl) h
  | _ => exact lst h
/-! ### isinstance -/
def tyS : Ty → String
  | .int => "int" | .bool => "bool" | .str => "str" | .tuple => "tuple" | .list => "list"
def tnS : TyN → String
  | .non => "NoneType" | .bool => "bool" | .int => "int" | .str => "str" | .tuple => "tuple" | .list => "list"
theorem kit_tab (a : TyN) (t : Ty) : kitB (tnS a) (tyS t) = some (subTy a t) := by
  cases a <;> cases t <;> decide +kernel
theorem tyOf_ok (ok : Ok X.K n ρ S H) {x : D} {vx : V} {a : TyN} (rx : Rp X.K n ρ S H x vx) (e : tyOf S x = some a) : TyX X.K H vx (.type (tnS a)) := by
  cases rx with
  | non => cases e; exact .base .non
  | bl b => cases e; exact .base (.bl b)
  | int i => cases e; exact .base (.int i)
  | str h => cases e; exact .base (.str _)
  | tup hs _ _ =>
    cases e
    rcases hs with (hs | ⟨o, hs⟩) | ⟨o, its, m, h1, h2, h3, _⟩
    · exact .base (.tup hs)
    · exact .fTuple hs
    · exact .kTuple h1 h2
  | ilst hs _ _ _ => cases e; exact .base (.lst hs)
  | idic _ _ _ _ _ _ _ => cases e
  | tpz _ _ _ _ => cases e
  | ref hm =>
    simp only [tyOf] at e
    split at e
    · rename_i l eo
      cases e
      obtain ⟨_, _, vs, hv, _⟩ := ok.ob _ _ eo
      exact .base (.lst hv)
    · rename_i l eo
      cases e
      obtain ⟨_, _, vs, hv, _⟩ := ok.ob _ _ eo
      rcases hv with ⟨o, hv⟩ | ⟨o, its, m, h1, h2, h3, _⟩
      · exact .base (.frz hv)
      · exact .kList h1 h2
    · cases e
theorem isiR_ok (ok : Ok X.K n ρ S H) (k : KD X.K n ρ S H Qd Q) {x : D} {vx : V} {t : Ty} (rx : Rp X.K n ρ S H x vx) (h : isiR x t S Qd) : bCl X (.builtin "isinstance") [vx, .ty (tyS t)] H Q := by
  unfold isiR at h
  split at h
  · rename_i a e
    exact bCl_of call_isi ⟨vx, .ty (tyS t), _, _, _, rfl, .ty _, tyOf_ok ok rx e, kit_ty (kit_tab a t), k.here ok (.bl _) h⟩
  · exact h.elim
end
/-! ### built-in functions -/
theorem strLt_irrefl (a : Str) : strLt a a = false := by
  unfold strLt
  exact decide_eq_false (List.lt_irrefl _)
theorem strsOf_ok : ∀ {l : List D} {ss : List Str}, strsOf l = some ss → l = ss.map D.str
  | [], ss, h => by cases h; rfl
  | d :: r, ss, h => by
    cases d with
    | str s =>
      obtain ⟨ss', e, rfl⟩ := Option.map_eq_some_iff.mp (show (strsOf r).map (s :: ·) = some ss from h)
      rw [strsOf_ok e]; rfl
    | _ => cases h
theorem blsOf_ok : ∀ {l : List D} {ss : List Bool}, blsOf l = some ss → l = ss.map D.bl
  | [], ss, h => by cases h; rfl
  | d :: r, ss, h => by
    cases d with
    | bl s =>
      obtain ⟨ss', e, rfl⟩ := Option.map_eq_some_iff.mp (show (blsOf r).map (s :: ·) = some ss from h)
      rw [blsOf_ok e]; rfl
    | _ => cases h
end TH
namespace TH
open PySem PySem.Spec PyProof.Rows L2
/-! ### orders -/
/-- a total order, by "less" -/
structure TotO {α : Type} (lt : α → α → Bool) : Prop where
  asym : ∀ a b, lt a b = true → lt b a = false
  tr : ∀ a b c, lt b a = false → lt c b = false → lt c a = false
  tot : ∀ a b, lt a b = false → lt b a = false → a = b
section
variable {α : Type} {lt : α → α → Bool}
theorem insO_perm (x : α) : ∀ l : List α, (insO lt x l).Perm (x :: l)
  | [] => .refl _
  | y :: r => by
    unfold insO
    split
    · exact ((insO_perm x r).cons y).trans (List.Perm.swap x y r)
    · exact .refl _
theorem sortO_perm : ∀ l : List α, (sortO lt l).Perm l
  | [] => .refl _
  | x :: r => (insO_perm x _).trans ((sortO_perm r).cons x)
theorem insO_pw (o : TotO lt) (x : α) : ∀ l : List α, l.Pairwise (fun a b => lt b a = false) → (insO lt x l).Pairwise (fun a b => lt b a = false)
  | [], _ => List.pairwise_singleton _ _
  | y :: r, h => by
    have h0 := h
    rw [List.pairwise_cons] at h
    unfold insO
    split
    · rename_i e
      rw [List.pairwise_cons]
      refine ⟨fun z hz => ?_, insO_pw o x r h.2⟩
      rcases List.mem_cons.mp ((insO_perm x r).subset hz) with rfl | hz
      · exact o.asym _ _ e
      · exact h.1 z hz
    · rename_i e
      have e : lt y x = false := by simpa using e
      rw [List.pairwise_cons]
      refine ⟨fun z hz => ?_, h0⟩
      rcases List.mem_cons.mp hz with rfl | hz
      · exact e
      · exact o.tr _ _ _ e (h.1 z hz)
theorem sortO_pw (o : TotO lt) : ∀ l : List α, (sortO lt l).Pairwise (fun a b => lt b a = false)
  | [] => List.Pairwise.nil
  | x :: r => insO_pw o x _ (sortO_pw o r)
theorem sortO_uniq (o : TotO lt) {l l' : List α} (h : l'.Perm l) (hp : l'.Pairwise (fun a b => lt b a = false)) : l' = sortO lt l :=
  List.Perm.eq_of_pairwise (le := fun a b => lt b a = false) (fun a b _ _ h1 h2 => o.tot a b h2 h1) hp (sortO_pw o l) (h.trans (sortO_perm l).symm)
end
theorem strO : TotO strLt where
  asym := fun a b h => by
    unfold strLt at *
    exact decide_eq_false (List.lt_asymm (of_decide_eq_true h))
  tr := fun a b c h1 h2 => by
    unfold strLt at *
    have h1 : a.cps.toList ≤ b.cps.toList := of_decide_eq_false h1
    have h2 : b.cps.toList ≤ c.cps.toList := of_decide_eq_false h2
    exact decide_eq_false (show a.cps.toList ≤ c.cps.toList from List.le_trans h1 h2)
  tot := fun a b h1 h2 => by
    unfold strLt at *
    have h1 : b.cps.toList ≤ a.cps.toList := of_decide_eq_false h1
    have h2 : a.cps.toList ≤ b.cps.toList := of_decide_eq_false h2
    have e := List.le_antisymm h2 h1
    obtain ⟨⟨x⟩⟩ := a
    obtain ⟨⟨y⟩⟩ := b
    simp only at e
    rw [e]
theorem rising_pw : ∀ (p : Str) (l : List Str), risingS p l = true → (p :: l).Pairwise (fun a b => strLt b a = false)
  | p, [], _ => List.pairwise_singleton _ _
  | p, x :: r, h => by
    unfold risingS at h
    simp only [Bool.and_eq_true, Bool.not_eq_true'] at h
    have ih := rising_pw x r h.2
    have e : strLt x p = false := by
      unfold strLt
      rw [← ltCps_eq]
      exact h.1
    rw [List.pairwise_cons]
    refine ⟨fun z hz => ?_, ih⟩
    rcases List.mem_cons.mp hz with rfl | hz
    · exact e
    · rw [List.pairwise_cons] at ih
      exact strO.tr _ _ _ e (ih.1 z hz)
theorem sortedS_pw (l : List Str) (h : sortedS l = true) : l.Pairwise (fun a b => strLt b a = false) := by
  cases l with
  | nil => exact List.Pairwise.nil
  | cons x r => exact rising_pw x r h
section
variable {K : PySem.W.Frag} {n : Nat} {ρ : Rho} {S : Sto} {H : Hp}
theorem RpL.strs : ∀ {ss : List Str} {vs : List V}, RpL K n ρ S H (ss.map D.str) vs → vs = ss.map V.str ∧ ∀ s ∈ ss, PyData.strOk s = true
  | [], _, h => by cases h; exact ⟨rfl, fun _ z => by cases z⟩
  | s :: r, _, h => by
    cases h with
    | cons h1 h2 =>
      cases h1 with
      | str hs =>
        obtain ⟨e, q⟩ := RpL.strs h2
        exact ⟨by rw [e]; rfl, fun z hz => (List.mem_cons.mp hz).elim (fun e => e ▸ hs) (q z)⟩
theorem RpL.of_strs : ∀ {ss : List Str}, (∀ s ∈ ss, PyData.strOk s = true) → RpL K n ρ S H (ss.map D.str) (ss.map V.str)
  | [], _ => .nil
  | s :: r, h => .cons (.str (h s List.mem_cons_self)) (RpL.of_strs fun z hz => h z (List.mem_cons_of_mem _ hz))
theorem RpL.bls : ∀ {ss : List Bool} {vs : List V}, RpL K n ρ S H (ss.map D.bl) vs → vs = ss.map V.bl
  | [], _, h => by cases h; rfl
  | s :: r, _, h => by
    cases h with
    | cons h1 h2 => cases h1; rw [RpL.bls h2]; rfl
end
/-! ### built-in functions -/
def bfV : BF → Value
  | .len => .builtin "len" | .sorted => .builtin "sorted" | .all => .builtin "all" | .list => .type "list" | .tuple => .type "tuple" | .dict => .type "dict" | .abs => .builtin "abs"
section
variable {X : Cx} {n : Nat} {ρ : Rho} {S : Sto} {H : Hp} {Qd : D → Sto → Prop} {Q : VK}
theorem RpL.one {ds : List D} {d : D} {vs : List V} (e : ds = [d]) (h : RpL X.K n ρ S H ds vs) : ∃ v, vs = [v] ∧ Rp X.K n ρ S H d v := by
  subst e
  cases h with
  | cons h t => cases t; exact ⟨_, rfl, h⟩
theorem keys_strs : ∀ {ks : List Key} {ss : List Str}, ks.map kD = ss.map D.str → ks = ss.map Sum.inr
  | [], [], _ => rfl
  | [], _ :: _, h => by cases h
  | _ :: _, [], h => by cases h
  | k :: ks, s :: ss, h => by
    rw [List.map_cons, List.map_cons] at h
    injection h with h1 h2
    rw [List.map_cons, keys_strs h2]
    cases k with
    | inl i => cases h1
    | inr t => cases h1; rfl
theorem bfR_ok (hc : X.calm = true) (ok : Ok X.K n ρ S H) (k : KD X.K n ρ S H Qd Q) {b : BF} {fl : Bool} {ds : List D} {vs : List V} (r : RpL X.K n ρ S H ds vs) (h : bfR b fl ds S Qd) : bCl X (bfV b) vs H Q := by
  have one : ∀ {P : Prop}, (∀ d v, ds = [d] → vs = [v] → Rp X.K n ρ S H d v → P) → (ds.length = 1) → P := fun {P} f hl => by
    match ds, r, hl with
    | [d], .cons h1 .nil, _ => exact f d _ rfl rfl h1
  have hl : ds.length = 1 := by
    cases ds with
    | nil => cases b <;> exact False.elim h
    | cons d ds =>
      cases ds with
      | nil => rfl
      | cons e es => cases b <;> first | exact False.elim h | (cases d <;> exact False.elim h)
  refine one (fun d v e1 e2 rd => ?_) hl
  subst e1 e2
  cases b with
  | len =>
    have h : (match seqOf S d with
      | some l => Qd (.int l.length) S
      | none => match (generalizing := false) d with
        | .str s => s.length ≤ SZ ∧ Qd (.int s.length) S
        | x => match dicOf S x with
          | some l => Qd (.int l.length) S
          | none => False) := h
    split at h
    · rename_i l e
      obtain ⟨a, us, rfl, hs, rl, _⟩ := seqOf_ok ok e rd
      refine bCl_of call_len_seq ⟨a, us, rfl, hs, ?_⟩
      rw [← rl.length]
      exact k.here ok (.int _) h
    · have dic : (match dicOf S d with
          | some l => Qd (.int l.length) S
          | none => False) → bCl X (.builtin "len") [v] H Q := fun h => by
        split at h
        · rename_i l e
          obtain ⟨a, ks, ds, vs, rfl, hh, rfl, el, r, z, nd, rk⟩ := dicOf_ok ok e rd
          intro pins s σ us I ru
          cases ru with
          | cons r1 r2 =>
            cases r2
            cases r1
            refine d_len I hh fun t s' I' => ⟨.int _, H, I', ⟨t, rfl⟩, ?_⟩
            have e1 : (ks.zip vs).length = ((ks.map kD).zip ds).length := by
              have := r.length
              rw [List.length_zip, List.length_zip, List.length_map]; omega
            rw [e1]
            exact k.here ok (.int _) h
        · exact h.elim
      cases rd with
      | str hs => exact bCl_of call_len_str ⟨_, rfl, h.1, k.here ok (.int _) h.2⟩
      | _ => first | exact dic h | exact False.elim h
  | sorted =>
    have h : (match lstOf S d with
      | some l => match strsOf l with
        | some ss => ss.length < 64 ∧ newL fl ((sortS ss).map D.str) S Qd
        | none => False
      | none => match dicOf S d with
        | some l => match strsOf (l.map Prod.fst) with
          | some ss => ss.length < 64 ∧ newL fl ((sortS ss).map D.str) S Qd
          | none => False
        | none => False) := h
    split at h
    · rename_i l e
      split at h
      · rename_i ss es
        obtain ⟨a, us, rfl, hs, rl, z⟩ := lstOf_ok ok e rd
        have el := strsOf_ok es
        subst el
        obtain ⟨rfl, hok⟩ := RpL.strs rl
        refine bCl_of cr_sortedS ⟨a, ss, rfl, hs, h.1, fun ys p hp hsr hn => ?_⟩
        have ey : ys = sortS ss := sortO_uniq strO hp (sortedS_pw ys hsr)
        refine newL_ok ok k (fl := fl) (l := ys.map D.str) (RpL.of_strs fun s hs' => hok s (hp.subset hs')) ?_ (by rw [ey]; exact h.2) p hn
        rw [List.length_map, hp.length_eq]
        exact Nat.le_of_lt (Nat.lt_trans h.1 (by decide))
      · exact h.elim
    · split at h
      · rename_i l e
        split at h
        · rename_i ss es
          obtain ⟨a, ks, ds, us, rfl, hh, rfl, el, r, z, nd, rk⟩ := dicOf_ok ok e rd
          have es := strsOf_ok es
          rw [List.map_fst_zip (by rw [List.length_map]; exact Nat.le_of_eq el)] at es
          obtain rfl := keys_strs es
          have rk : RpL X.K n ρ S H ((ss.map Sum.inr).map kD) ((ss.map Sum.inr).map kV) := rk
          have hok : ∀ s ∈ ss, PyData.strOk s = true := by
            have e1 : (ss.map (Sum.inr : Str → Key)).map kD = ss.map D.str := by rw [List.map_map]; rfl
            rw [e1] at rk
            exact (RpL.strs rk).2
          have eu : ((ss.map Sum.inr).zip us).map (·.1) = ss.map (Sum.inr : Str → Key) := by
            rw [List.map_fst_zip]
            rw [el, r.length]
            exact Nat.le_refl _
          refine bCl_of (call_sortedD hc) ⟨a, _, ss, rfl, hh, eu, h.1, fun ys p hp hsr hn => ?_⟩
          have ey : ys = sortS ss := sortO_uniq strO hp (sortedS_pw ys hsr)
          refine newL_ok ok k (fl := fl) (l := ys.map D.str) (RpL.of_strs fun s hs' => hok s (hp.subset hs')) ?_ (by rw [ey]; exact h.2) p hn
          rw [List.length_map, hp.length_eq]
          exact Nat.le_of_lt (Nat.lt_trans h.1 (by decide))
        · exact h.elim
      · exact h.elim
  | all =>
    have h : (match lstOf S d with
      | some l => match blsOf l with
        | some bs => Qd (.bl (bs.all id)) S
        | none => False
      | none => False) := h
    split at h
    · rename_i l e
      split at h
      · rename_i bs eb
        obtain ⟨a, us, rfl, hs, rl, z⟩ := lstOf_ok ok e rd
        have el := blsOf_ok eb
        subst el
        have := RpL.bls rl
        subst this
        exact bCl_of (cr_all hc) ⟨a, bs, rfl, hs, k.here ok (.bl _) h⟩
      · exact h.elim
    · exact h.elim
  | list =>
    have h : (match seqOf S d with
      | some l => newL fl l S Qd
      | none => False) := h
    split at h
    · rename_i l e
      obtain ⟨a, us, rfl, hs, rl, z⟩ := seqOf_ok ok e rd
      exact bCl_of call_list_of ⟨a, us, rfl, hs, newL_ok ok k rl z h⟩
    · exact h.elim
  | tuple =>
    have h : (match seqOf S d with
      | some l => Qd (.tup l) S
      | none => False) := h
    split at h
    · rename_i l e
      obtain ⟨a, us, rfl, hs, rl, z⟩ := seqOf_ok ok e rd
      rcases hs with hs | hs
      · exact bCl_of call_tuple_of ⟨a, us, rfl, .inl ⟨hs, newT_ok ok k rl z h⟩⟩
      · exact bCl_of call_tuple_of ⟨a, us, rfl, .inr ⟨hs, k.here ok (.tup hs z rl) h⟩⟩
    · exact h.elim
  | abs =>
    cases rd with
    | int i => exact bCl_of call_abs ⟨i, rfl, k.here ok (.int _) h⟩
    | _ => exact False.elim h
  | dict =>
    have h : (match dicOf S d with
      | some l => newD fl l S Qd
      | none => False) := by cases fl <;> exact h
    split at h
    · rename_i l e
      obtain ⟨a, ks, ds, us, rfl, hh, rfl, el, r, z, nd, rk⟩ := dicOf_ok ok e rd
      intro pins s σ ws I ru
      cases ru with
      | cons r1 r2 =>
        cases r2
        cases r1
        refine d_copyOf I hh fun p s' hp I' => ⟨.ref p, _, I', rfl, ?_⟩
        cases fl with
        | false =>
          have h : Qd (.idic ((ks.map kD).zip ds)) S := h
          refine k _ S n ρ _ _ (Le.same ok (same_upd hp)) (ok.same (same_upd hp)) (.idic (.inl upd_same) z el nd (fun t => ?_) (rk.mono (Le.same ok (same_upd hp))) (r.mono (Le.same ok (same_upd hp)))) h
          obtain ⟨u, hu⟩ := Trk.some_of ok t
          rw [hp] at hu; cases hu
        | true =>
          have h : ∀ n, S n = none → Qd (.ref n) (S.set n (.dic ((ks.map kD).zip ds) false)) := h
          have le : Le X.K n ρ S H (n + 1) (rho ρ n p) (S.set n (.dic ((ks.map kD).zip ds) false)) (upd H p (.dK (ks.zip us))) := Le.new ok hp
          refine k _ _ (n + 1) (rho ρ n p) _ _ le (Ok.new (o := .dic ((ks.map kD).zip ds) false) ok hp ⟨ks, ds, us, rfl, el, nd, z, rk.mono le, r.mono le, upd_same⟩) ?_ (h n ok.none_n)
          have := Rp.ref (K := X.K) (n := n + 1) (ρ := rho ρ n p) (S := S.set n (.dic ((ks.map kD).zip ds) false)) (H := upd H p (.dK (ks.zip us))) (Nat.lt_succ_self n)
          rw [rho_same] at this
          exact this
    · exact h.elim
/-! ### methods of lists -/
def bMt (X : Cx) (id : String) : V → List V → Hp → VK → Prop := fun x xs H Q => ∀ (pins : List (Addr × Obj)) (s : Shared) (σ : L2.St) (v : Value) (us : List Value), Inv X pins σ H s → RelV x v → Vals xs us → wpAny (model X.prog X.w) X.A (call (.builtin id) (v :: us)) (EP X pins σ Q) X.xe s
theorem bMt_of {id : String} {r : V → List V → Hp → VK → Prop} {x : V} {xs : List V} (h : MtR X id r) (q : r x xs H Q) : bMt X id x xs H Q := fun pins s σ v us I rx rs => h pins s σ H x xs v us Q I rx rs q
/-- what T's attributes are for a receiver -/
def TyIs (X : Cx) (T : String) (x : V) (H : Hp) : Prop := ∀ (pins : List (Addr × Obj)) (s : Shared) (σ : L2.St) (v : Value), Inv X pins σ H s → RelV x v → s.TypeIs v T ∧ ∀ a, v = .ref a → ∃ ob, s.heap.get? a = some ob ∧ ob.dict = none
theorem TyIs.of {T : String} {x : V} (h : tyV X.K T x H) : TyIs X T x H := fun pins s σ v I r => tyV_is I r h
/-- the reading of a method of a built-in type, whatever the type -/
def bBm (X : Cx) (name : Str) (x : V) (t : (List V → Hp → Prop) → Prop) (Q : VK) (H : Hp) : Prop :=
  ∃ T id, PlainAttrs T ∧ Slot T name id ∧ typeOf (.builtin id) = pure (.type "method_descriptor") ∧ TyIs X T x H ∧ t fun xs H2 => bMt X id x xs H2 Q
theorem pe_bmX {o e : Expr} {es : List Expr} {to : TE} {t : TA} {name : Str} {apos cpos : Pos} (ho : PE X o to) (ha : PA X (e :: es) t)
    (hbase : attributeBase o name X.env (eval o X.env) = eval o X.env)
    (hfew : ((backTo cpos (starEach (e :: es) X.env)).all (fun x => !x.1) && (backToKw cpos (keywordEach [] X.env)).all (fun x => x.1.isSome)
      && decide ((e :: es).length + ([] : List Keyword).length + (if ([] : List Keyword).isEmpty then 0 else 1) < 30)) = true)
    (hline : (apos.endLine == cpos.line) = true) (hs : starEach (e :: es) X.env = (false, eval e X.env) :: starEach es X.env) (hplain : (backTo cpos (starEach es X.env)).any (·.1) = false) :
    PE X (.Call (.Attribute o name apos) (e :: es) [] cpos) (fun σ H Q => to σ H fun x H1 => bBm X name x (t σ H1) Q H1) := by
  refine ⟨fun pins s σ H Q I h => ?_⟩
  refine wpAny_Call_method_late hbase hfew hline rfl (thn (ho.run pins s σ H _ I h) fun v s1 ⟨x, H1, I1, r1, q1⟩ => ?_)
  obtain ⟨T, id, pa, slot, hty, ty, q1⟩ := q1
  obtain ⟨h1, h2⟩ := ty pins s1 σ v I1 r1
  refine ⟨T, id, pa, slot, hty, h1, h2, ?_⟩
  have hA := ha.run cpos pins s1 σ H1 _ I1 q1
  rw [hs] at hA ⊢
  refine Calls.callWith_builtin (by show (false || (backTo cpos (starEach es X.env)).any (·.1)) = false; rw [hplain] <;> rfl) (Calls.evalArgs_plain ?_)
  exact thn hA fun us s2 ⟨vs, H2, I2, r2, q2⟩ => q2 pins s2 σ v us I2 r1 r2
def bmS : BM → Str
  | .append => "append" | .pop => "pop" | .get => "get" | .extend => "extend"
theorem ixD_seq {m : Nat} {i : Int} {j : Nat} (h : ixD m i = some j) : seqIndex? i m = some j := (ixN_seq (show ixN m i = some j from h)).1
theorem nt_lst {a : Addr} {vs : List V} (h : H a = some (.lst vs)) : ∀ xs, ¬ Rd H a (.tup xs) := fun xs r => by
  rcases r with r | ⟨o, r⟩
  · rw [h] at r; cases r
  · rw [h] at r; cases r
/-- a tracked list is changed -/
theorem putL_ok (ok : Ok X.K n ρ S H) (k : KD X.K n ρ S H Qd Q) {m : Nat} {l l' : List D} {vs vs' : List V} (e : S m = some (.lst l)) (hv : H (ρ m) = some (.lst vs)) (z : l'.length ≤ SZ)
    (rl : ∀ {n' ρ' S' H'}, Le X.K n ρ S H n' ρ' S' H' → RpL X.K n' ρ' S' H' l' vs') {d : D} {v : V} (rd : Rp X.K n ρ S H d v) (q : Qd d (S.set m (.lst l'))) : Q v (upd H (ρ m) (.lst vs')) := by
  have l1 : Le X.K n ρ S H n ρ (S.set m (.lst l')) (upd H (ρ m) (.lst vs')) := Le.write ok e rfl rfl hv (nt_lst hv) (fun ob w z => by cases z)
  exact k d _ n ρ _ v l1 (Ok.write ok e rfl rfl hv (nt_lst hv) (fun ob w z => by cases z) ⟨z, vs', upd_same, rl l1⟩) (rd.mono l1) q
theorem bmR_ok (hu : X.A.units + 70 < cLine) (ok : Ok X.K n ρ S H) (k : KD X.K n ρ S H Qd Q) {b : BM} {fl : Bool} {x : D} {vx : V} {ds : List D} {vs : List V} (id : String) (hid : id = match b with | .append => "list.append" | .pop => "list.pop" | .get => "dict.get" | .extend => "list.extend")
    (rx : Rp X.K n ρ S H x vx) (r : RpL X.K n ρ S H ds vs) (h : bmR b fl x ds S Qd) : bMt X id vx vs H Q := by
  subst hid
  cases b with
  | append =>
    match x, ds, rx, r, h with
    | .ref m, [d], .ref hm, .cons rd .nil, h =>
      have h : (match S m with
        | some (.lst l) => l.length < SZ ∧ Qd .non (S.set m (.lst (l ++ [d])))
        | _ => False) := h
      split at h
      · rename_i l e
        obtain ⟨_, z, us, hv, rl⟩ := ok.ob _ _ e
        refine bMt_of mt_append ⟨_, us, _, rfl, rfl, hv, by rw [← rl.length]; exact h.1, ?_⟩
        exact putL_ok ok k e hv (by simp; exact h.1) (fun le => (rl.mono le).append (.cons (rd.mono le) .nil)) .non h.2
      · exact h.elim
  | pop =>
    match x, ds, rx, r, h with
    | .ref m, [.int i], .ref hm, .cons (.int _) .nil, h =>
      have h : (match S m with
        | some (.lst l) => (-(2 ^ 63) ≤ i ∧ i < 2 ^ 63) ∧ match ixD l.length i with
          | some j => match l[j]? with
            | some d => Qd d (S.set m (.lst (l.eraseIdx j)))
            | none => False
          | none => False
        | _ => False) := h
      split at h
      · rename_i l e
        obtain ⟨_, z, us, hv, rl⟩ := ok.ob _ _ e
        obtain ⟨hi, h⟩ := h
        split at h
        · rename_i j ej
          split at h
          · rename_i d ed
            obtain ⟨v, hv2, rd⟩ := rl.get ed
            refine bMt_of mt_popAt ⟨_, us, i, j, v, rfl, rfl, hv, hi.1, hi.2, by rw [← rl.length]; exact ixD_seq ej, hv2, ?_⟩
            exact putL_ok ok k e hv (Nat.le_trans (len_erase l j) z) (fun le => (rl.mono le).erase j) rd h
          · exact h.elim
        · exact h.elim
      · exact h.elim
  | extend =>
    match x, ds, rx, r, h with
    | .ref m, [d], .ref hm, .cons rd .nil, h =>
      have h : (match S m with
        | some (.lst l) => match lstM S d with
          | some l2 => l.length + l2.length ≤ SZ ∧ Qd .non (S.set m (.lst (l ++ l2)))
          | none => False
        | _ => False) := h
      split at h
      · rename_i l e
        split at h
        · rename_i l2 e2
          obtain ⟨_, z, us, hv, rl⟩ := ok.ob _ _ e
          obtain ⟨b, ws, rfl, hb, rb, _⟩ := lstM_ok ok e2 rd
          refine bMt_of mt_extend ⟨_, b, us, ws, rfl, rfl, hv, hb, by rw [← rl.length, ← rb.length]; exact h.1, ?_⟩
          exact putL_ok ok k e hv (by simp; exact h.1) (fun le => (rl.mono le).append (rb.mono le)) .non h.2
        · exact h.elim
      · exact h.elim
  | get =>
    match x, ds, rx, r, h with
    | x, [a, d], rx, .cons ra (.cons rd .nil), h =>
      have h : (match dicOf S x with
        | some l => a.kS = true ∧ Qd ((getK a l).getD d) S
        | none => False) := by cases x <;> exact h
      split at h
      · rename_i l e
        obtain ⟨p, rfl, g⟩ := dget_of ok e h.1 ra rx
        intro pins s σ v us I r1 r2
        cases r1
        cases r2 with
        | cons q1 q2 =>
          cases q2 with
          | cons q2 q3 =>
            cases q3
            rcases g with ⟨g1, g2⟩ | ⟨d', v', g1, g2, r⟩
            · have := h.2; rw [g1] at this
              exact d_get2 (by omega) I g2 q1 q2 fun w' s' I' r' => ⟨_, H, I', r', k.here ok rd this⟩
            · have := h.2; rw [g1] at this
              exact d_get2 (by omega) I g2 q1 q2 fun w' s' I' r' => ⟨_, H, I', r', k.here ok r this⟩
      · exact h.elim
end
end TH
namespace TH
open PySem PySem.Spec PyProof.Rows L2
/-! ### the check of a tree against the IR -/
structure Sg where
  fns : List Str
  css : List Str
structure Gm where
  N : List Str
  sc : Scope
  bk : Option Scope := none
def visB (sc : Scope) (x : Str) : Bool := match sc.names.lookup x with
  | some .local => true
  | some .cell => true
  | some .free => true
  | _ => false
def glB (sc : Scope) (x : Str) : Bool := match sc.names.lookup x with
  | some .globalImplicit => !(x == ("__debug__" : Str))
  | _ => false
def locB (sc : Scope) (x : Str) : Bool := match sc.names.lookup x with
  | some .local => true
  | _ => false
/-- stored in a def's body (or in its block): a local, or a cell made at the entry -/
def stoB (bk : Option Scope) (sc : Scope) (x : Str) : Bool := match sc.names.lookup x with
  | some .local => true
  | some .cell => match bk with
    | none => true
    | some s0 => match s0.names.lookup x with
      | some .cell => true
      | _ => false
  | _ => false
def cstB : D → Const → Bool
  | .non, .none => true
  | .bl a, .bool b => decide (a = b)
  | .int i, .int j => decide (i = j)
  | .str a, .str b => decide (a = b) && PyData.strOk a
  | _, _ => false
def bfN : BF → Str
  | .len => "len" | .sorted => "sorted" | .all => "all" | .list => "list" | .tuple => "tuple" | .dict => "dict" | .abs => "abs"
def tyN : Ty → Str
  | .int => "int" | .bool => "bool" | .str => "str" | .tuple => "tuple" | .list => "list"
def attrB : Expr → Bool
  | .Call _ [] _ _ => false
  | _ => true
def ownP (N : List Str) (own : List Nat) : List (Str × Nat) := own.filterMap fun i => (N[i]?).map fun x => (x, i)
def plX : Expr → Bool
  | .Set _ _ _ => false
  | .Starred _ _ => false
  | .Slice _ _ _ _ => false
  | _ => true
def nmsB (Γ : Gm) : List Nat → List Expr → Bool
  | [], [] => true
  | i :: is, .Name x _ :: es => decide (Γ.N[i]? = some x) && stoB Γ.bk Γ.sc x && nmsB Γ is es
  | _, _ => false
def chkT (Γ : Gm) : Tgt → Expr → Bool
  | .nm i, .Name x _ => decide (Γ.N[i]? = some x) && stoB Γ.bk Γ.sc x
  | .tp is, .Tuple es _ _ => nmsB Γ is es
  | _, _ => false
def tgIds : Tgt → List Nat
  | .nm i => [i]
  | .tp is => is
def blkG (Γ : Gm) (scope : Scope) : Gm := ⟨Γ.N, relS scope Γ.sc, some scope⟩
/-- pairs go to a tuple target -/
def itmT : II → Tgt → Bool
  | .itms _, .tp _ => true
  | .itms _, _ => false
  | _, _ => true
def lenA : IA → Nat
  | .nil => 0
  | .cons _ r => lenA r + 1
section
variable (G : Sg)
mutual
def chkE : IE → Gm → Expr → Bool
  | .var i, Γ, e => match e with
    | .Name x _ => decide (Γ.N[i]? = some x) && visB Γ.sc x && !(x == ("__debug__" : Str)) && !(x == ("__classdict__" : Str))
    | _ => false
  | .cst d, _, e => match e with
    | .Constant c _ _ => cstB d c
    | _ => false
  | .glo g, Γ, e => match e with
    | .Name x _ => decide (G.css[g]? = some x) && glB Γ.sc x
    | _ => false
  | .bin op _ a b, Γ, e => match e with
    | .BinOp x o y _ => decide (o = opOf op) && chkE a Γ x && chkE b Γ y
    | _ => false
  | .neg a, Γ, e => match e with
    | .UnaryOp .USub x _ => chkE a Γ x
    | _ => false
  | .not a, Γ, e => match e with
    | .UnaryOp .Not x _ => chkE a Γ x
    | _ => false
  | .and a b, Γ, e => match e with
    | .BoolOp .And [x, y] _ => chkE a Γ x && chkE b Γ y
    | .BoolOp .And (x :: y :: z :: r) p => chkE a Γ x && chkE b Γ (.BoolOp .And (y :: z :: r) p)
    | _ => false
  | .or a b, Γ, e => match e with
    | .BoolOp .Or [x, y] _ => chkE a Γ x && chkE b Γ y
    | .BoolOp .Or (x :: y :: z :: r) p => chkE a Γ x && chkE b Γ (.BoolOp .Or (y :: z :: r) p)
    | _ => false
  | .ite c a b, Γ, e => match e with
    | .IfExp x y z _ => chkE c Γ x && chkE a Γ y && chkE b Γ z
    | _ => false
  | .cmp op a b, Γ, e => match e with
    | .Compare x [o] [y] _ => decide (o = copOf op) && chkE a Γ x && chkE b Γ y
    | _ => false
  | .cmp2 o1 o2 a b c, Γ, e => match e with
    | .Compare x [p, q] [y, z] _ => decide (p = copOf o1) && decide (q = copOf o2) && chkE a Γ x && chkE b Γ y && chkE c Γ z
    | _ => false
  | .idx a b, Γ, e => match e with
    | .Subscript x y _ => chkE a Γ x && chkE b Γ y
    | _ => false
  | .slL _ a lo, Γ, e => match e with
    | .Subscript x (.Slice (some y) none none _) _ => chkE a Γ x && chkE lo Γ y
    | _ => false
  | .slH _ a hi, Γ, e => match e with
    | .Subscript x (.Slice none (some y) none _) _ => chkE a Γ x && chkE hi Γ y
    | _ => false
  | .slB _ a lo hi, Γ, e => match e with
    | .Subscript x (.Slice (some y) (some z) none _) _ => chkE a Γ x && chkE lo Γ y && chkE hi Γ z
    | _ => false
  | .tup as, Γ, e => match e with
    | .Tuple es _ _ => chkA as Γ es && decide (lenA as ≤ SZ)
    | _ => false
  | .lst _ as, Γ, e => match e with
    | .List es _ => chkA as Γ es && decide (lenA as ≤ SZ)
    | _ => false
  | .dic0 _, _, e => match e with
    | .Dict [] [] _ => true
    | _ => false
  | .call f as, Γ, e => match e with
    | .Call (.Name x _) (y :: es) [] _ => decide (G.fns[f]? = some x) && glB Γ.sc x && chkA as Γ (y :: es)
    | _ => false
  | .bf b _ as, Γ, e => match e with
    | .Call (.Name x _) (y :: es) [] _ => decide (x = bfN b) && glB Γ.sc x && chkA as Γ (y :: es)
    | _ => false
  | .bm b _ o as, Γ, e => match e with
    | .Call (.Attribute x name apos) (y :: es) [] cpos => decide (name = bmS b) && attrB x && (apos.endLine == cpos.line) && decide (es.length + 1 < 30) && chkE o Γ x && chkA as Γ (y :: es)
    | _ => false
  | .isi a t, Γ, e => match e with
    | .Call (.Name x _) [y, .Name z _] [] _ => decide (x = ("isinstance" : Str)) && glB Γ.sc x && decide (z = tyN t) && glB Γ.sc z && chkE a Γ y
    | _ => false
  | .comp _ own t it ifs elt, Γ, e => match e with
    | .ListComp x [⟨tg, iter, cs, 0⟩] scope _ => blkC Γ.N Γ.sc scope (ownP Γ.N own) && decide ((ownP Γ.N own).map (·.2) = own) && ((tgIds t).all fun i => decide (i ∈ own)) && (itmT it t && chkI it Γ iter)
        && chkT (blkG Γ scope) t tg && decide (cs.length < 2) && chkA ifs (blkG Γ scope) cs && chkE elt (blkG Γ scope) x
    | _ => false
  | .dcomp fl own t it k v, Γ, e => match e with
    | .DictComp x y [⟨tg, iter, [], 0⟩] scope _ => decide (fl = false) && blkC Γ.N Γ.sc scope (ownP Γ.N own) && decide ((ownP Γ.N own).map (·.2) = own) && ((tgIds t).all fun i => decide (i ∈ own)) && (itmT it t && chkI it Γ iter)
        && chkT (blkG Γ scope) t tg && chkE k (blkG Γ scope) x && chkE v (blkG Γ scope) y
    | _ => false
  | .comp2 _ own t it ifs own1 t1 it1 ifs1 elt, Γ, e => match e with
    | .ListComp x [⟨tg, iter, cs, 0⟩, ⟨tg1, iter1, cs1, 0⟩] scope _ => blkC Γ.N Γ.sc scope (ownP Γ.N own) && decide ((ownP Γ.N own).map (·.2) = own) && ((tgIds t).all fun i => decide (i ∈ own)) && (itmT it t && chkI it Γ iter)
        && chkT (blkG Γ scope) t tg && decide (cs.length < 2) && chkA ifs (blkG Γ scope) cs && (own1.all fun i => decide (i ∈ own)) && ((tgIds t1).all fun i => decide (i ∈ own1))
        && (itmT it1 t1 && chkI it1 (blkG Γ scope) iter1) && chkT (blkG Γ scope) t1 tg1 && decide (cs1.length < 2) && chkA ifs1 (blkG Γ scope) cs1 && chkE elt (blkG Γ scope) x
    | _ => false
  | .varw i, Γ, e => match e with
    | .Name x _ => decide (Γ.N[i]? = some x) && visB Γ.sc x && !(x == ("__debug__" : Str)) && !(x == ("__classdict__" : Str))
    | _ => false
  | .tupz a, Γ, e => match e with
    | .Call (.Name x _) [y] [] _ => decide (x = ("tuple" : Str)) && glB Γ.sc x && chkE a Γ y
    | _ => false
  | .dictz _ a, Γ, e => match e with
    | .Call (.Name x _) [y] [] _ => decide (x = ("dict" : Str)) && glB Γ.sc x && chkE a Γ y
    | _ => false
  | .inv a o, Γ, e => match e with
    | .Compare x [p] [.Call (.Attribute y name apos) [] [] cpos] _ => decide (p = .In) && decide (name = ("values" : Str)) && attrB y && (apos.endLine == cpos.line) && chkE a Γ x && chkE o Γ y
    | _ => false
def chkA : IA → Gm → List Expr → Bool
  | .nil, _, es => match es with
    | [] => true
    | _ => false
  | .cons a r, Γ, es => match es with
    | e :: es => chkE a Γ e && chkA r Γ es
    | _ => false
def chkI : II → Gm → Expr → Bool
  | .ex a, Γ, e => chkE a Γ e
  | .rng1 a, Γ, e => match e with
    | .Call (.Name x _) [y] [] _ => decide (x = ("range" : Str)) && glB Γ.sc x && chkE a Γ y
    | _ => false
  | .rng2 a b, Γ, e => match e with
    | .Call (.Name x _) [y, z] [] _ => decide (x = ("range" : Str)) && glB Γ.sc x && chkE a Γ y && chkE b Γ z
    | _ => false
  | .vals a, Γ, e => match e with
    | .Call (.Attribute y name apos) [] [] cpos => decide (name = ("values" : Str)) && attrB y && (apos.endLine == cpos.line) && chkE a Γ y
    | _ => false
  | .itms a, Γ, e => match e with
    | .Call (.Attribute y name apos) [] [] cpos => decide (name = ("items" : Str)) && attrB y && (apos.endLine == cpos.line) && chkE a Γ y
    | _ => false
end
theorem chkE_pl {ir : IE} {Γ : Gm} {e : Expr} (h : chkE G ir Γ e = true) : plX e = true := by
  cases e with
  | Set _ _ _ => cases ir <;> exact absurd h Bool.false_ne_true
  | Starred _ _ => cases ir <;> exact absurd h Bool.false_ne_true
  | Slice _ _ _ _ => cases ir <;> exact absurd h Bool.false_ne_true
  | _ => rfl
end
theorem pl_star {e : Expr} (h : plX e = true) (es : List Expr) (env : PySem.Env) : starEach (e :: es) env = (false, eval e env) :: starEach es env := by
  cases e <;> first | rfl | exact absurd h Bool.false_ne_true
theorem pl_mark {e : Expr} (h : plX e = true) (op : CmpOp) : behindInMarks op e = false := by
  cases e <;> first | rfl | exact absurd h Bool.false_ne_true
theorem pl_ix {e : Expr} (h : plX e = true) : PlainIx e := fun o i => by
  cases e <;> first | rfl | exact absurd h Bool.false_ne_true
theorem pl_fold {e : Expr} (h : plX e = true) (env : PySem.Env) (x : Value) : foldedSetIterable e env x = pure x := by
  cases e <;> first | rfl | exact absurd h Bool.false_ne_true
def plXs (es : List Expr) : Bool := es.all plX
theorem chkA_pl {G : Sg} : ∀ {as : IA} {Γ : Gm} {es : List Expr}, chkA G as Γ es = true → plXs es = true
  | .nil, Γ, es, h => by
    cases es with
    | nil => rfl
    | cons e es => exact absurd h Bool.false_ne_true
  | .cons a r, Γ, es, h => by
    cases es with
    | nil => exact absurd h Bool.false_ne_true
    | cons e es =>
      have h : (chkE G a Γ e && chkA G r Γ es) = true := h
      rw [Bool.and_eq_true] at h
      show (plX e && plXs es) = true
      rw [chkE_pl G h.1, chkA_pl h.2]; rfl
theorem pls_plain : ∀ {es : List Expr}, plXs es = true → ∀ (pos : Pos) (env : PySem.Env), (backTo pos (starEach es env)).any (·.1) = false
  | [], _, _, _ => rfl
  | e :: es, h, pos, env => by
    have h : (plX e && plXs es) = true := h
    rw [Bool.and_eq_true] at h
    rw [pl_star h.1]
    show (false || (backTo pos (starEach es env)).any (·.1)) = false
    rw [pls_plain h.2]; rfl
theorem pls_all : ∀ {es : List Expr}, plXs es = true → ∀ (pos : Pos) (env : PySem.Env), (backTo pos (starEach es env)).all (fun x => !x.1) = true
  | [], _, _, _ => rfl
  | e :: es, h, pos, env => by
    have h : (plX e && plXs es) = true := h
    rw [Bool.and_eq_true] at h
    rw [pl_star h.1]
    show (true && (backTo pos (starEach es env)).all (fun x => !x.1)) = true
    rw [pls_all h.2]; rfl
end TH
namespace TH
open PySem PySem.Spec PyProof.Rows L2
/-! ### what is wanted behind -/
abbrev KA (K : PySem.W.Frag) (n : Nat) (ρ : Rho) (S : Sto) (H : Hp) (m : Nat) (Qd : List D → Sto → Prop) (Q : List V → Hp → Prop) : Prop :=
  ∀ ds S' n' ρ' H' vs, ds.length = m → Le K n ρ S H n' ρ' S' H' → Ok K n' ρ' S' H' → RpL K n' ρ' S' H' ds vs → Qd ds S' → Q vs H'
abbrev KT (K : PySem.W.Frag) (n : Nat) (ρ : Rho) (S : Sto) (H : Hp) (Qd : Bool → Sto → Prop) (Q : Bool → Hp → Prop) : Prop :=
  ∀ b S' n' ρ' H', Le K n ρ S H n' ρ' S' H' → Ok K n' ρ' S' H' → Qd b S' → Q b H'
abbrev Exn := Nat → List D → Sto → Prop
/-- the exceptions: those without fields -/
abbrev XR (ca : Nat → Value) (K : PySem.W.Frag) (n : Nat) (ρ : Rho) (S : Sto) (H : Hp) (E : Exn) (Wx : XK) : Prop :=
  ∀ c S' n' ρ' H', Le K n ρ S H n' ρ' S' H' → Ok K n' ρ' S' H' → E c [] S' → Wx (ca c) none H'
structure EnvR (K : PySem.W.Frag) (n : Nat) (ρ : Rho) (S : Sto) (H : Hp) (ε : Env) (σ : L2.St) : Prop where
  len : ε.length = σ.length
  get : ∀ i d, getV ε i = some d → ∃ v, σ[i]? = some (some v) ∧ Rp K n ρ S H d v
section
variable {K : PySem.W.Frag} {n n' n'' : Nat} {ρ ρ' ρ'' : Rho} {S S' S'' : Sto} {H H' H'' : Hp} {ε : Env} {σ : L2.St} {ca : Nat → Value}
theorem EnvR.mono (e : EnvR K n ρ S H ε σ) (l : Le K n ρ S H n' ρ' S' H') : EnvR K n' ρ' S' H' ε σ :=
  ⟨e.len, fun i d h => let ⟨v, a, b⟩ := e.get i d h; ⟨v, a, b.mono l⟩⟩
theorem EnvR.mono0 (e : EnvR K n ρ S H ε σ) (l : Le0 K n ρ S H n' ρ' S' H') : EnvR K n' ρ' S' H' ε σ :=
  ⟨e.len, fun i d h => let ⟨v, a, b⟩ := e.get i d h; ⟨v, a, b.mono0 l⟩⟩
theorem KD.mono {Qd : D → Sto → Prop} {Q : VK} (k : KD K n ρ S H Qd Q) (l : Le K n ρ S H n' ρ' S' H') : KD K n' ρ' S' H' Qd Q :=
  fun d S2 n2 ρ2 H2 v l2 ok r q => k d S2 n2 ρ2 H2 v (l.trans l2) ok r q
theorem KA.mono {m : Nat} {Qd : List D → Sto → Prop} {Q : List V → Hp → Prop} (k : KA K n ρ S H m Qd Q) (l : Le K n ρ S H n' ρ' S' H') : KA K n' ρ' S' H' m Qd Q :=
  fun d S2 n2 ρ2 H2 v e l2 ok r q => k d S2 n2 ρ2 H2 v e (l.trans l2) ok r q
theorem KT.mono {Qd : Bool → Sto → Prop} {Q : Bool → Hp → Prop} (k : KT K n ρ S H Qd Q) (l : Le K n ρ S H n' ρ' S' H') : KT K n' ρ' S' H' Qd Q :=
  fun d S2 n2 ρ2 H2 l2 ok q => k d S2 n2 ρ2 H2 (l.trans l2) ok q
theorem XR.mono {E : Exn} {Wx : XK} (k : XR ca K n ρ S H E Wx) (l : Le K n ρ S H n' ρ' S' H') : XR ca K n' ρ' S' H' E Wx :=
  fun c S2 n2 ρ2 H2 l2 ok q => k c S2 n2 ρ2 H2 (l.trans l2) ok q
theorem getV_set : ∀ {ε : Env} {i j : Nat} {v : Option D}, getV (setV ε i v) j = if i = j ∧ i < ε.length then v else getV ε j
  | [], i, j, v => by show getV [] j = _; rw [if_neg (fun h => absurd h.2 (Nat.not_lt_zero _))]
  | x :: r, 0, 0, v => by show v = _; rw [if_pos ⟨rfl, Nat.succ_pos _⟩]
  | x :: r, 0, j + 1, v => by show getV r j = _; rw [if_neg (fun h => absurd h.1 (Nat.succ_ne_zero _).symm)]; rfl
  | x :: r, i + 1, 0, v => by show x = _; rw [if_neg (fun h => absurd h.1 (Nat.succ_ne_zero _))]; rfl
  | x :: r, i + 1, j + 1, v => by
    show getV (setV r i v) j = _
    rw [getV_set]
    by_cases h : i = j ∧ i < r.length
    · rw [if_pos h, if_pos ⟨by rw [h.1], Nat.succ_lt_succ h.2⟩]
    · rw [if_neg h, if_neg (fun z => h ⟨Nat.succ.inj z.1, Nat.lt_of_succ_lt_succ z.2⟩)]; rfl
theorem setV_len : ∀ {ε : Env} {i : Nat} {v : Option D}, (setV ε i v).length = ε.length
  | [], _, _ => rfl
  | x :: r, 0, v => rfl
  | x :: r, i + 1, v => by show (setV r i v).length + 1 = r.length + 1; rw [setV_len]
theorem EnvR.set (e : EnvR K n ρ S H ε σ) {i : Nat} {d : D} {v : V} (r : Rp K n ρ S H d v) : EnvR K n ρ S H (setV ε i (some d)) (σ.set i (some v)) := by
  refine ⟨by rw [setV_len, List.length_set]; exact e.len, fun j u h => ?_⟩
  rw [getV_set] at h
  split at h
  · rename_i hh
    cases h
    obtain ⟨rfl, hl⟩ := hh
    exact ⟨v, List.getElem?_set_self (by rw [← e.len]; exact hl), r⟩
  · rename_i hh
    by_cases hij : i = j
    · subst hij
      have hl : ¬ i < ε.length := fun z => hh ⟨rfl, z⟩
      obtain ⟨w, a, b⟩ := e.get i u h
      exact absurd (by rw [e.len]; exact (List.getElem?_eq_some_iff.mp a).1) hl
    · obtain ⟨w, a, b⟩ := e.get j u h
      exact ⟨w, by rw [List.getElem?_set_ne hij]; exact a, b⟩
theorem EnvR.unset (e : EnvR K n ρ S H ε σ) {i : Nat} : EnvR K n ρ S H (setV ε i none) (σ.set i none) := by
  refine ⟨by rw [setV_len, List.length_set]; exact e.len, fun j u h => ?_⟩
  rw [getV_set] at h
  split at h
  · cases h
  · rename_i hh
    by_cases hij : i = j
    · subst hij
      have hl : ¬ i < ε.length := fun z => hh ⟨rfl, z⟩
      obtain ⟨w, a, b⟩ := e.get i u h
      exact absurd (by rw [e.len]; exact (List.getElem?_eq_some_iff.mp a).1) hl
    · obtain ⟨w, a, b⟩ := e.get j u h
      exact ⟨w, by rw [List.getElem?_set_ne hij]; exact a, b⟩
theorem EnvR.wipe (e : EnvR K n ρ S H ε σ) : ∀ (l : List Nat), EnvR K n ρ S H (wipeV ε l) (L2.wipe σ l)
  | [] => e
  | i :: r => (EnvR.wipe e r).unset
end
/-! ### the context -/
def bltL : List Str := ["isinstance", "range", "len", "sorted", "all", "list", "tuple", "dict", "abs", "int", "bool", "str"]
/-- a def's promise, by its meaning on data -/
def spF (ca : Nat → Value) (K : PySem.W.Frag) (Φ : FnSem) (f np : Nat) : Sp := fun vs H Q E =>
  ∃ n ρ S ds Qd Ed, Ok K n ρ S H ∧ RpL K n ρ S H ds vs ∧ ds.length = np ∧ Φ f ds S Qd Ed ∧ KD K n ρ S H Qd Q ∧ XR ca K n ρ S H Ed E
structure Cok (G : Sg) (P : Prog) (Φ : FnSem) (fA : Nat → Addr) (ca : Nat → Value) (Γ : Gm) (k : Nat) (Wx : XK) (X : Cx) : Prop where
  N : X.N = Γ.N
  nd : Γ.N.Nodup
  sc : X.env.scope = Γ.sc
  calm : X.calm = true
  room : Room k X.A
  fn : ∀ (i : Nat) (x : Str), Γ.N[i]? = some x → stoB Γ.bk Γ.sc x = true → X.fn x = true ∨ Γ.sc.names.lookup x = some .local
  tk : Takes X (fun c d _ H => Wx c d H)
  blt : ∀ x ∈ bltL, X.mg x = none
  fns : ∀ (f : Nat) (x : Str), G.fns[f]? = some x → ∃ fd ps np, X.mg x = some (.ref (fA f)) ∧ PySem.W.keepIn X.K (.ref (fA f)) = true ∧ Binds X.K fd ps [] ∧ (∀ ds S Q E, Φ f ds S Q E → ds.length = np) ∧ FnOk X.prog X.w X.K X.mg X.base (L2.CX X.prog X.w) k (fA f) fd ps (spF ca X.K Φ f np)
  css : ∀ (g : Nat) (x : Str) (d : D), G.css[g]? = some x → P.cs g = some d → ∃ v u, X.mg x = some u ∧ RelV v u ∧ ∀ n ρ S H, Rp X.K n ρ S H d v
section
variable {G : Sg} {P : Prog} {Φ : FnSem} {fA : Nat → Addr} {ca : Nat → Value} {Γ : Gm} {k : Nat} {Wx : XK} {X : Cx}
theorem Cok.hu (c : Cok G P Φ fA ca Γ k Wx X) : X.A.units + 70 < cLine := by have := c.room.un; omega
theorem Cok.vis (c : Cok G P Φ fA ca Γ k Wx X) {x : Str} (h : visB Γ.sc x = true) : Vis X.env.scope x := by
  rw [c.sc]
  unfold visB at h
  split at h
  · rename_i e; exact .inl e
  · rename_i e; exact .inr (.inl e)
  · rename_i e; exact .inr (.inr e)
  · cases h
theorem Cok.loc (c : Cok G P Φ fA ca Γ k Wx X) {x : Str} (h : stoB Γ.bk Γ.sc x = true) : L2.Loc X.env.scope x := by
  rw [c.sc]
  unfold stoB at h
  split at h
  · rename_i e; exact .inl e
  · rename_i e; exact .inr e
  · cases h
theorem Cok.gl (c : Cok G P Φ fA ca Γ k Wx X) {x : Str} (h : glB Γ.sc x = true) : Gl X x ∧ (x == ("__debug__" : Str)) = false := by
  unfold glB at h
  split at h
  · rename_i e
    refine ⟨?_, by rw [Bool.not_eq_true'] at h; exact h⟩
    show X.env.scope.names.lookup x = some .globalImplicit
    rw [c.sc]; exact e
  · cases h
/-- in a comprehension's block -/
theorem Cok.blk (c : Cok G P Φ fA ca Γ k Wx X) (s : Shared) (H : Hp) (scope : Scope) (C : Addr) (cl : List (Str × Addr)) (fp : List Addr) : Cok G P Φ fA ca (blkG Γ scope) k (fun _ _ _ => False) (X.blk s H scope (compEnvC scope cl C X.env) fp) where
  N := c.N
  nd := c.nd
  sc := by show relS scope X.env.scope = relS scope Γ.sc; rw [c.sc]
  calm := c.calm
  room := c.room
  fn := fun i x _ h => by
    show (scope.names.lookup x == some .cell) = true ∨ (relS scope Γ.sc).names.lookup x = some .local
    have h : stoB (some scope) (relS scope Γ.sc) x = true := h
    unfold stoB at h
    split at h
    · rename_i e; exact .inr e
    · split at h
      · rename_i e; cases e
      · rename_i e
        cases e
        split at h
        · rename_i e2
          exact .inl (by rw [e2]; rfl)
        · cases h
    · cases h
  tk := fun u s' ⟨_, _, _, _, _, _, _, _, _, _, _, _, _, _, _, _, w⟩ => w.elim
  blt := c.blt
  fns := c.fns
  css := c.css
/-! ### readings -/
variable (P Φ ca Wx X) in
def rdE (ir : IE) : TE := fun σ H Q => ∃ n ρ S ε Q0 E0, Ok X.K n ρ S H ∧ EnvR X.K n ρ S H ε σ ∧ wpE P Φ ir ε S Q0 E0 ∧ KD X.K n ρ S H Q0 Q ∧ XR ca X.K n ρ S H E0 Wx
variable (P Φ ca Wx X) in
def rdA (ir : IA) : TA := fun σ H Q => ∃ n ρ S ε Q0 E0, Ok X.K n ρ S H ∧ EnvR X.K n ρ S H ε σ ∧ wpA P Φ ir ε S Q0 E0 ∧ KA X.K n ρ S H (lenA ir) Q0 Q ∧ XR ca X.K n ρ S H E0 Wx
variable (P Φ ca Wx X) in
def rdT (ir : IE) : TT := fun σ H Q => ∃ n ρ S ε Q0 E0, Ok X.K n ρ S H ∧ EnvR X.K n ρ S H ε σ ∧ wpT P Φ ir ε S Q0 E0 ∧ KT X.K n ρ S H Q0 Q ∧ XR ca X.K n ρ S H E0 Wx
theorem PT.imp {e : Expr} {t t' : TT} (h : PT X e t) (i : ∀ σ H Q, t' σ H Q → t σ H Q) : PT X e t' := ⟨fun pins s σ H Q I q => h.run pins s σ H Q I (i _ _ _ q)⟩
theorem PW.imp {e : Expr} {t t' : TT} (h : PW X e t) (i : ∀ σ H Q, t' σ H Q → t σ H Q) : PW X e t' := ⟨fun wh pins s σ H Q I q => h.run wh pins s σ H Q I (i _ _ _ q)⟩
theorem PA.imp {es : List Expr} {t t' : TA} (h : PA X es t) (i : ∀ σ H Q, t' σ H Q → t σ H Q) : PA X es t' := ⟨fun p pins s σ H Q I q => h.run p pins s σ H Q I (i _ _ _ q)⟩
/-- the test of an expression that has no test of its own -/
def tstB : Expr → Bool
  | .UnaryOp .Not _ _ => false
  | .BoolOp _ _ _ => false
  | .IfExp _ _ _ _ => false
  | .Compare _ _ _ _ => false
  | _ => true
theorem tst_true {e : Expr} (h : tstB e = true) (env : PySem.Env) (whole : Sem Value) : isTrue e env whole = (do let v ← whole; standAt e.pos; holding [v] (truthy v)) := by
  unfold tstB at h
  split at h
  · cases h
  · cases h
  · cases h
  · cases h
  · rename_i h1 h2 h3 h4
    unfold PySem.isTrue
    split
    · exact absurd rfl (h1 _ _)
    · exact absurd rfl (h2 _ _ _)
    · exact absurd rfl (h3 _ _ _ _)
    · exact absurd rfl (h4 _ _ _ _)
    · rfl
variable (P Φ ca Wx X) in
structure ES (ir : IE) (e : Expr) : Prop where
  pe : PE X e (rdE P Φ ca Wx X ir)
  pt : PT X e (rdT P Φ ca Wx X ir)
  pw : (∃ op es p, e = .BoolOp op es p) → PW X e (rdT P Φ ca Wx X ir)
theorem rdT_tB {ir : IE} {σ : L2.St} {H : Hp} {Q : Bool → Hp → Prop} (h : rdT P Φ ca Wx X ir σ H Q) : tB (rdE P Φ ca Wx X ir) σ H Q := by
  obtain ⟨n, ρ, S, ε, Q0, E0, ok, er, w, kt, xr⟩ := h
  refine ⟨n, ρ, S, ε, _, E0, ok, er, w, fun d S' n' ρ' H' v le ok' r q => ?_, xr⟩
  cases r with
  | bl b => exact ⟨b, rfl, kt b _ _ _ _ le ok' q⟩
  | _ => exact False.elim q
theorem ES.val {ir : IE} {e : Expr} (h : PE X e (rdE P Φ ca Wx X ir)) (t : tstB e = true) : ES P Φ ca Wx X ir e where
  pe := h
  pt := PT.imp (pt_val h (tst_true t X.env)) fun _ _ _ q => rdT_tB q
  pw := fun ⟨_, _, _, z⟩ => by subst z; cases t
/-- one expression behind another's value -/
theorem rdE_go {ir : IE} {σ : L2.St} {H : Hp} {n : Nat} {ρ : Rho} {S : Sto} {ε : Env} {Q0 : D → Sto → Prop} {E0 : Exn} {Q : VK} (ok : Ok X.K n ρ S H) (er : EnvR X.K n ρ S H ε σ) (w : wpE P Φ ir ε S Q0 E0) (xr : XR ca X.K n ρ S H E0 Wx)
    (k : ∀ d S' n' ρ' H' v, Le X.K n ρ S H n' ρ' S' H' → Ok X.K n' ρ' S' H' → EnvR X.K n' ρ' S' H' ε σ → XR ca X.K n' ρ' S' H' E0 Wx → Rp X.K n' ρ' S' H' d v → Q0 d S' → Q v H') : rdE P Φ ca Wx X ir σ H Q :=
  ⟨n, ρ, S, ε, Q0, E0, ok, er, w, fun d S' n' ρ' H' v le ok' r q => k d S' n' ρ' H' v le ok' (er.mono le) (xr.mono le) r q, xr⟩
theorem rdA_go {ir : IA} {σ : L2.St} {H : Hp} {n : Nat} {ρ : Rho} {S : Sto} {ε : Env} {Q0 : List D → Sto → Prop} {E0 : Exn} {Q : List V → Hp → Prop} (ok : Ok X.K n ρ S H) (er : EnvR X.K n ρ S H ε σ) (w : wpA P Φ ir ε S Q0 E0) (xr : XR ca X.K n ρ S H E0 Wx)
    (k : ∀ d S' n' ρ' H' v, d.length = lenA ir → Le X.K n ρ S H n' ρ' S' H' → Ok X.K n' ρ' S' H' → EnvR X.K n' ρ' S' H' ε σ → XR ca X.K n' ρ' S' H' E0 Wx → RpL X.K n' ρ' S' H' d v → Q0 d S' → Q v H') : rdA P Φ ca Wx X ir σ H Q :=
  ⟨n, ρ, S, ε, Q0, E0, ok, er, w, fun d S' n' ρ' H' v e le ok' r q => k d S' n' ρ' H' v e le ok' (er.mono le) (xr.mono le) r q, xr⟩
theorem rdT_go {ir : IE} {σ : L2.St} {H : Hp} {n : Nat} {ρ : Rho} {S : Sto} {ε : Env} {Q0 : Bool → Sto → Prop} {E0 : Exn} {Q : Bool → Hp → Prop} (ok : Ok X.K n ρ S H) (er : EnvR X.K n ρ S H ε σ) (w : wpT P Φ ir ε S Q0 E0) (xr : XR ca X.K n ρ S H E0 Wx)
    (k : ∀ d S' n' ρ' H', Le X.K n ρ S H n' ρ' S' H' → Ok X.K n' ρ' S' H' → EnvR X.K n' ρ' S' H' ε σ → XR ca X.K n' ρ' S' H' E0 Wx → Q0 d S' → Q d H') : rdT P Φ ca Wx X ir σ H Q :=
  ⟨n, ρ, S, ε, Q0, E0, ok, er, w, fun d S' n' ρ' H' le ok' q => k d S' n' ρ' H' le ok' (er.mono le) (xr.mono le) q, xr⟩
end
end TH
namespace TH
open PySem PySem.Spec PyProof.Rows L2
section
variable {G : Sg} {P : Prog} {Φ : FnSem} {fA : Nat → Addr} {ca : Nat → Value} {Γ : Gm} {k : Nat} {Wx : XK} {X : Cx}
theorem and3 {a b c : Bool} (h : (a && b && c) = true) : a = true ∧ b = true ∧ c = true := by
  rw [Bool.and_eq_true, Bool.and_eq_true] at h; exact ⟨h.1.1, h.1.2, h.2⟩
theorem and2 {a b : Bool} (h : (a && b) = true) : a = true ∧ b = true := by rwa [Bool.and_eq_true] at h
theorem nnot {a : Bool} (h : (!a) = true) : a = false := by cases a <;> first | rfl | cases h
theorem s_var (c : Cok G P Φ fA ca Γ k Wx X) {i : Nat} {e : Expr} (h : chkE G (.var i) Γ e = true) : (ES P Φ ca Wx X) (.var i) e := by
  unfold chkE at h
  split at h
  · rename_i x p
    obtain ⟨h, h4⟩ := and2 h
    obtain ⟨h1, h2, h3⟩ := and3 h
    refine .val (PE.imp (pe_var (i := i) (by rw [c.N]; exact of_decide_eq_true h1) (c.vis h2) (nnot h3) (nnot h4)) ?_) rfl
    rintro σ H Q ⟨n, ρ, S, ε, Q0, E0, ok, er, w, kd, xr⟩
    have w : (match getV ε i with
      | some d => Q0 d S
      | none => False) := w
    split at w
    · rename_i d e
      obtain ⟨v, ev, r⟩ := er.get _ _ e
      exact ⟨v, ev, kd.here ok r w⟩
    · exact w.elim
  · cases h
theorem s_cst {d : D} {e : Expr} (h : chkE G (.cst d) Γ e = true) : (ES P Φ ca Wx X) (.cst d) e := by
  unfold chkE at h
  split at h
  · rename_i cc j p
    refine .val ?_ rfl
    unfold cstB at h
    split at h
    · exact PE.imp pe_non fun σ H Q ⟨n, ρ, S, ε, Q0, E0, ok, er, w, kd, xr⟩ => kd.here ok .non w
    · obtain rfl := of_decide_eq_true h
      exact PE.imp pe_bl fun σ H Q ⟨n, ρ, S, ε, Q0, E0, ok, er, w, kd, xr⟩ => kd.here ok (.bl _) w
    · obtain rfl := of_decide_eq_true h
      exact PE.imp pe_int fun σ H Q ⟨n, ρ, S, ε, Q0, E0, ok, er, w, kd, xr⟩ => kd.here ok (.int _) w
    · obtain ⟨h1, h2⟩ := and2 h
      obtain rfl := of_decide_eq_true h1
      exact PE.imp pe_str fun σ H Q ⟨n, ρ, S, ε, Q0, E0, ok, er, w, kd, xr⟩ => kd.here ok (.str h2) w
    · cases h
  · cases h
theorem s_glo (c : Cok G P Φ fA ca Γ k Wx X) {g : Nat} {e : Expr} (h : chkE G (.glo g) Γ e = true) : (ES P Φ ca Wx X) (.glo g) e := by
  unfold chkE at h
  split at h
  · rename_i x p
    obtain ⟨h1, h2⟩ := and2 h
    obtain ⟨hg, hd⟩ := c.gl h2
    refine .val ⟨fun pins s σ H Q I q => ?_⟩ rfl
    obtain ⟨n, ρ, S, ε, Q0, E0, ok, er, w, kd, xr⟩ := q
    have w : (match P.cs g with
      | some d => Q0 d S
      | none => False) := w
    split at w
    · rename_i d e
      obtain ⟨v, u, m, r, rp⟩ := c.css g x d (of_decide_eq_true h1) e
      exact (pe_glob hg m r hd).run pins s σ H Q I (kd.here ok (rp _ _ _ _) w)
    · exact w.elim
  · cases h
theorem s_bin {op : BOp} {fl : Bool} {a b : IE} {ea eb : Expr} {pos : Pos} (ha : PE X ea ((rdE P Φ ca Wx X) a)) (hb : PE X eb ((rdE P Φ ca Wx X) b)) : PE X (.BinOp ea (opOf op) eb pos) ((rdE P Φ ca Wx X) (.bin op fl a b)) := by
  refine PE.imp (pe_op opR_best ha hb) ?_
  rintro σ H Q ⟨n, ρ, S, ε, Q0, E0, ok, er, w, kd, xr⟩
  refine rdE_go ok er w xr fun x S1 n1 ρ1 H1 v le1 ok1 er1 xr1 rx w => rdE_go ok1 er1 w xr1 fun y S2 n2 ρ2 H2 u le2 ok2 er2 xr2 ry w => ?_
  exact binR_ok ok2 (kd.mono (le1.trans le2)) (rx.mono le2) ry w
theorem s_neg {a : IE} {ea : Expr} {pos : Pos} (ha : PE X ea ((rdE P Φ ca Wx X) a)) : PE X (.UnaryOp .USub ea pos) ((rdE P Φ ca Wx X) (.neg a)) := by
  refine PE.imp (pe_un un_neg ha) ?_
  rintro σ H Q ⟨n, ρ, S, ε, Q0, E0, ok, er, w, kd, xr⟩
  refine rdE_go ok er w xr fun x S1 n1 ρ1 H1 v le1 ok1 er1 xr1 rx w => ?_
  cases rx with
  | int i => exact ⟨i, rfl, (kd.mono le1).here ok1 (.int _) w⟩
  | _ => exact False.elim w
/-- a bool comes: what is wanted of it -/
theorem tyB_rp {n : Nat} {ρ : Rho} {S : Sto} {H : Hp} {x : D} {v : V} {Q : Bool → Prop} (r : Rp X.K n ρ S H x v) (h : tyB x Q) : ∃ b, x = .bl b ∧ v = .bl b ∧ Q b := by
  cases r with
  | bl b => exact ⟨b, rfl, rfl, h⟩
  | _ => exact False.elim h
theorem s_not {a : IE} {ea : Expr} {pos : Pos} (ha : (ES P Φ ca Wx X) a ea) : (ES P Φ ca Wx X) (.not a) (.UnaryOp .Not ea pos) where
  pe := by
    refine PE.imp (pe_not ha.pe) ?_
    rintro σ H Q ⟨n, ρ, S, ε, Q0, E0, ok, er, w, kd, xr⟩
    refine rdE_go ok er w xr fun x S1 n1 ρ1 H1 v le1 ok1 er1 xr1 rx w => ?_
    obtain ⟨b, rfl, rfl, w⟩ := tyB_rp rx w
    exact ⟨b, rfl, (kd.mono le1).here ok1 (.bl _) w⟩
  pt := by
    refine PT.imp (pt_not ha.pt) ?_
    rintro σ H Q ⟨n, ρ, S, ε, Q0, E0, ok, er, w, kt, xr⟩
    refine ⟨n, ρ, S, ε, fun b S1 => Q0 (!b) S1, E0, ok, er, ?_, fun b S' n' ρ' H' le ok' q => kt _ _ _ _ _ le ok' q, xr⟩
    have w : wpE P Φ a ε S (fun x S1 => tyB x fun b => tyB (.bl (!b)) fun b => Q0 b S1) E0 := w
    exact w
  pw := fun ⟨_, _, _, z⟩ => by cases z
theorem wp_andT {a b : IE} {ε : Env} {S : Sto} {Q0 : Bool → Sto → Prop} {E0 : Exn} (w : wpT P Φ (.and a b) ε S Q0 E0) : wpT P Φ a ε S (fun c S1 => if c = true then wpT P Φ b ε S1 Q0 E0 else Q0 false S1) E0 := by
  have w : wpE P Φ a ε S (fun x S1 => tyB x fun c => if c = true then wpE P Φ b ε S1 (fun x S1 => tyB x fun b => Q0 b S1) E0 else tyB (.bl false) fun b => Q0 b S1) E0 := w
  exact w
theorem wp_orT {a b : IE} {ε : Env} {S : Sto} {Q0 : Bool → Sto → Prop} {E0 : Exn} (w : wpT P Φ (.or a b) ε S Q0 E0) : wpT P Φ a ε S (fun c S1 => if c = true then Q0 true S1 else wpT P Φ b ε S1 Q0 E0) E0 := by
  have w : wpE P Φ a ε S (fun x S1 => tyB x fun c => if c = true then tyB (.bl true) fun b => Q0 b S1 else wpE P Φ b ε S1 (fun x S1 => tyB x fun b => Q0 b S1) E0) E0 := w
  exact w
theorem and_te {a b : IE} : ∀ σ H Q, (rdE P Φ ca Wx X) (.and a b) σ H Q → tAndV ((rdE P Φ ca Wx X) a) ((rdE P Φ ca Wx X) b) σ H Q := by
  rintro σ H Q ⟨n, ρ, S, ε, Q0, E0, ok, er, w, kd, xr⟩
  refine rdE_go ok er w xr fun x S1 n1 ρ1 H1 v le1 ok1 er1 xr1 rx w => ?_
  obtain ⟨b, rfl, rfl, w⟩ := tyB_rp rx w
  refine ⟨b, rfl, ?_⟩
  cases b with
  | true => exact ⟨_, _, _, _, _, _, ok1, er1, w, kd.mono le1, xr1⟩
  | false => exact (kd.mono le1).here ok1 (.bl _) w
theorem or_te {a b : IE} : ∀ σ H Q, (rdE P Φ ca Wx X) (.or a b) σ H Q → tOrV ((rdE P Φ ca Wx X) a) ((rdE P Φ ca Wx X) b) σ H Q := by
  rintro σ H Q ⟨n, ρ, S, ε, Q0, E0, ok, er, w, kd, xr⟩
  refine rdE_go ok er w xr fun x S1 n1 ρ1 H1 v le1 ok1 er1 xr1 rx w => ?_
  obtain ⟨b, rfl, rfl, w⟩ := tyB_rp rx w
  refine ⟨b, rfl, ?_⟩
  cases b with
  | true => exact (kd.mono le1).here ok1 (.bl _) w
  | false => exact ⟨_, _, _, _, _, _, ok1, er1, w, kd.mono le1, xr1⟩
theorem and_tt {a b : IE} : ∀ σ H Q, (rdT P Φ ca Wx X) (.and a b) σ H Q → tAnd ((rdT P Φ ca Wx X) a) ((rdT P Φ ca Wx X) b) σ H Q := by
  rintro σ H Q ⟨n, ρ, S, ε, Q0, E0, ok, er, w, kt, xr⟩
  refine rdT_go ok er (wp_andT w) xr fun b S1 n1 ρ1 H1 le1 ok1 er1 xr1 w => ?_
  cases b with
  | true => exact ⟨_, _, _, _, _, _, ok1, er1, w, kt.mono le1, xr1⟩
  | false => exact kt _ _ _ _ _ le1 ok1 w
theorem or_tt {a b : IE} : ∀ σ H Q, (rdT P Φ ca Wx X) (.or a b) σ H Q → tOr ((rdT P Φ ca Wx X) a) ((rdT P Φ ca Wx X) b) σ H Q := by
  rintro σ H Q ⟨n, ρ, S, ε, Q0, E0, ok, er, w, kt, xr⟩
  refine rdT_go ok er (wp_orT w) xr fun b S1 n1 ρ1 H1 le1 ok1 er1 xr1 w => ?_
  cases b with
  | true => exact kt _ _ _ _ _ le1 ok1 w
  | false => exact ⟨_, _, _, _, _, _, ok1, er1, w, kt.mono le1, xr1⟩
theorem s_and2 {a b : IE} {ea eb : Expr} {pos : Pos} (ha : (ES P Φ ca Wx X) a ea) (hb : (ES P Φ ca Wx X) b eb) : (ES P Φ ca Wx X) (.and a b) (.BoolOp .And [ea, eb] pos) :=
  have w : PW X (.BoolOp .And [ea, eb] pos) ((rdT P Φ ca Wx X) (.and a b)) := PW.imp (pw_and ha.pt (pw_and1 hb.pt)) and_tt
  ⟨PE.imp (pe_and ha.pe (pe_one hb.pe)) and_te, w.pt, fun _ => w⟩
theorem s_and3 {a b : IE} {ea eb ec : Expr} {r : List Expr} {pos : Pos} (ha : (ES P Φ ca Wx X) a ea) (hb : (ES P Φ ca Wx X) b (.BoolOp .And (eb :: ec :: r) pos)) : (ES P Φ ca Wx X) (.and a b) (.BoolOp .And (ea :: eb :: ec :: r) pos) :=
  have w : PW X (.BoolOp .And (ea :: eb :: ec :: r) pos) ((rdT P Φ ca Wx X) (.and a b)) := PW.imp (pw_and ha.pt (hb.pw ⟨_, _, _, rfl⟩)) and_tt
  ⟨PE.imp (pe_and ha.pe hb.pe) and_te, w.pt, fun _ => w⟩
theorem s_or2 {a b : IE} {ea eb : Expr} {pos : Pos} (ha : (ES P Φ ca Wx X) a ea) (hb : (ES P Φ ca Wx X) b eb) : (ES P Φ ca Wx X) (.or a b) (.BoolOp .Or [ea, eb] pos) :=
  have w : PW X (.BoolOp .Or [ea, eb] pos) ((rdT P Φ ca Wx X) (.or a b)) := PW.imp (pw_or ha.pt (pw_or1 hb.pt)) or_tt
  ⟨PE.imp (pe_or ha.pe (pe_one hb.pe)) or_te, w.pt, fun _ => w⟩
theorem s_or3 {a b : IE} {ea eb ec : Expr} {r : List Expr} {pos : Pos} (ha : (ES P Φ ca Wx X) a ea) (hb : (ES P Φ ca Wx X) b (.BoolOp .Or (eb :: ec :: r) pos)) : (ES P Φ ca Wx X) (.or a b) (.BoolOp .Or (ea :: eb :: ec :: r) pos) :=
  have w : PW X (.BoolOp .Or (ea :: eb :: ec :: r) pos) ((rdT P Φ ca Wx X) (.or a b)) := PW.imp (pw_or ha.pt (hb.pw ⟨_, _, _, rfl⟩)) or_tt
  ⟨PE.imp (pe_or ha.pe hb.pe) or_te, w.pt, fun _ => w⟩
theorem pt_ifExp {tc ta tb : TT} {ec ea eb : Expr} {pos : Pos} (hc : PT X ec tc) (ha : PT X ea ta) (hb : PT X eb tb) : PT X (.IfExp ec ea eb pos) (fun σ H Q => tc σ H fun c H1 => if c = true then ta σ H1 Q else tb σ H1 Q) := by
  refine ⟨fun pins s σ H Q I h => ?_⟩
  show wpAny (model X.prog X.w) X.A (do if ← PySem.isTrue ec X.env (eval ec X.env) then PySem.isTrue ea X.env (eval ea X.env) else PySem.isTrue eb X.env (eval eb X.env)) _ _ s
  refine wpAny_bind (thn (hc.run pins s σ H _ I h) fun c s1 ⟨H1, I1, q⟩ => ?_)
  cases c with
  | true => exact ha.run pins s1 σ H1 Q I1 q
  | false => exact hb.run pins s1 σ H1 Q I1 q
theorem s_ite {c a b : IE} {ec ea eb : Expr} {pos : Pos} (hc : (ES P Φ ca Wx X) c ec) (ha : (ES P Φ ca Wx X) a ea) (hb : (ES P Φ ca Wx X) b eb) : (ES P Φ ca Wx X) (.ite c a b) (.IfExp ec ea eb pos) where
  pe := by
    refine PE.imp (pe_ifExp hc.pt ha.pe hb.pe) ?_
    rintro σ H Q ⟨n, ρ, S, ε, Q0, E0, ok, er, w, kd, xr⟩
    have w : wpT P Φ c ε S (fun k S1 => if k = true then wpE P Φ a ε S1 Q0 E0 else wpE P Φ b ε S1 Q0 E0) E0 := w
    refine rdT_go ok er w xr fun d S1 n1 ρ1 H1 le1 ok1 er1 xr1 w => ?_
    cases d with
    | true => exact ⟨_, _, _, _, _, _, ok1, er1, w, kd.mono le1, xr1⟩
    | false => exact ⟨_, _, _, _, _, _, ok1, er1, w, kd.mono le1, xr1⟩
  pt := by
    refine PT.imp (pt_ifExp hc.pt ha.pt hb.pt) ?_
    rintro σ H Q ⟨n, ρ, S, ε, Q0, E0, ok, er, w, kt, xr⟩
    have w : wpT P Φ c ε S (fun k S1 => if k = true then wpT P Φ a ε S1 Q0 E0 else wpT P Φ b ε S1 Q0 E0) E0 := w
    refine rdT_go ok er w xr fun d S1 n1 ρ1 H1 le1 ok1 er1 xr1 w => ?_
    cases d with
    | true => exact ⟨_, _, _, _, _, _, ok1, er1, w, kt.mono le1, xr1⟩
    | false => exact ⟨_, _, _, _, _, _, ok1, er1, w, kt.mono le1, xr1⟩
  pw := fun ⟨_, _, _, z⟩ => by cases z
theorem cmp_te (c : Cok G P Φ fA ca Γ k Wx X) {op : COp} {a b : IE} : ∀ σ H Q, (rdE P Φ ca Wx X) (.cmp op a b) σ H Q → tOp (bR2 X (compareOp (copOf op))) ((rdE P Φ ca Wx X) a) ((rdE P Φ ca Wx X) b) σ H Q := by
  rintro σ H Q ⟨n, ρ, S, ε, Q0, E0, ok, er, w, kd, xr⟩
  refine rdE_go ok er w xr fun x S1 n1 ρ1 H1 v le1 ok1 er1 xr1 rx w => rdE_go ok1 er1 w xr1 fun y S2 n2 ρ2 H2 u le2 ok2 er2 xr2 ry w => ?_
  exact cmpR_ok c.hu ok2 (rx.mono le2) ry (fun b q => (kd.mono (le1.trans le2)).here ok2 (.bl b) q) w
theorem s_cmp (c : Cok G P Φ fA ca Γ k Wx X) {op : COp} {a b : IE} {ea eb : Expr} {pos : Pos} (ha : PE X ea ((rdE P Φ ca Wx X) a)) (hb : PE X eb ((rdE P Φ ca Wx X) b)) (hp : plX eb = true) : (ES P Φ ca Wx X) (.cmp op a b) (.Compare ea [copOf op] [eb] pos) where
  pe := PE.imp (pe_cmpR opR_best ha hb (pl_mark hp _)) (cmp_te c)
  pt := PT.imp (pt_cmpR opR_best ha hb (pl_mark hp _)) fun σ H Q q => cmp_te c _ _ _ (rdT_tB q)
  pw := fun ⟨_, _, _, z⟩ => by cases z
theorem cmp2_te (c : Cok G P Φ fA ca Γ k Wx X) {o1 o2 : COp} {a b d : IE} : ∀ σ H Q, (rdE P Φ ca Wx X) (.cmp2 o1 o2 a b d) σ H Q → tChain (bR2 X (compareOp (copOf o1))) (bR2 X (compareOp (copOf o2))) ((rdE P Φ ca Wx X) a) ((rdE P Φ ca Wx X) b) ((rdE P Φ ca Wx X) d) σ H Q := by
  rintro σ H Q ⟨n, ρ, S, ε, Q0, E0, ok, er, w, kd, xr⟩
  refine rdE_go ok er w xr fun x S1 n1 ρ1 H1 v le1 ok1 er1 xr1 rx w => rdE_go ok1 er1 w xr1 fun y S2 n2 ρ2 H2 u le2 ok2 er2 xr2 ry w => ?_
  refine cmpR_ok c.hu ok2 (rx.mono le2) ry (fun b q => ⟨b, rfl, ?_⟩) w
  cases b with
  | true =>
    refine rdE_go ok2 er2 q xr2 fun z S3 n3 ρ3 H3 v3 le3 ok3 er3 xr3 rz w => ?_
    exact cmpR_ok c.hu ok3 (ry.mono le3) rz (fun b q => (kd.mono ((le1.trans le2).trans le3)).here ok3 (.bl b) q) w
  | false => exact (kd.mono (le1.trans le2)).here ok2 (.bl _) q
theorem s_cmp2 (c : Cok G P Φ fA ca Γ k Wx X) {o1 o2 : COp} {a b d : IE} {ea eb ed : Expr} {pos : Pos} (ha : PE X ea ((rdE P Φ ca Wx X) a)) (hb : PE X eb ((rdE P Φ ca Wx X) b)) (hd : PE X ed ((rdE P Φ ca Wx X) d)) (hp : plX ed = true) : (ES P Φ ca Wx X) (.cmp2 o1 o2 a b d) (.Compare ea [copOf o1, copOf o2] [eb, ed] pos) where
  pe := PE.imp (pe_chain opR_best opR_best ha hb hd (pl_mark hp _)) (cmp2_te c)
  pt := PT.imp (pt_chain opR_best opR_best ha hb hd (pl_mark hp _)) fun σ H Q q => cmp2_te c _ _ _ (rdT_tB q)
  pw := fun ⟨_, _, _, z⟩ => by cases z
theorem s_idx (c : Cok G P Φ fA ca Γ k Wx X) {a b : IE} {ea eb : Expr} {pos : Pos} (ha : PE X ea ((rdE P Φ ca Wx X) a)) (hb : PE X eb ((rdE P Φ ca Wx X) b)) (hp : plX eb = true) : PE X (.Subscript ea eb pos) ((rdE P Φ ca Wx X) (.idx a b)) := by
  refine PE.imp (pe_ix ixR_best ha hb (pl_ix hp)) ?_
  rintro σ H Q ⟨n, ρ, S, ε, Q0, E0, ok, er, w, kd, xr⟩
  refine rdE_go ok er w xr fun x S1 n1 ρ1 H1 v le1 ok1 er1 xr1 rx w => rdE_go ok1 er1 w xr1 fun y S2 n2 ρ2 H2 u le2 ok2 er2 xr2 ry w => ?_
  exact idxR_ok c.hu ok2 (kd.mono (le1.trans le2)) (rx.mono le2) ry w
theorem optI_rp {n : Nat} {ρ : Rho} {S : Sto} {H : Hp} {x : D} {v : V} {Q : Int → Prop} (r : Rp X.K n ρ S H x v) (h : optI x Q) : ∃ i, x = .int i ∧ v = .int i ∧ Q i := by
  cases r with
  | int b => exact ⟨b, rfl, rfl, h⟩
  | _ => exact False.elim h
theorem s_slL {fl : Bool} {a lo : IE} {ea el : Expr} {pos p2 : Pos} (ha : PE X ea ((rdE P Φ ca Wx X) a)) (hl : PE X el ((rdE P Φ ca Wx X) lo)) : PE X (.Subscript ea (.Slice (some el) none none p2) pos) ((rdE P Φ ca Wx X) (.slL fl a lo)) := by
  refine PE.imp (pe_slice slR_best ha (po_some hl) po_none) ?_
  rintro σ H Q ⟨n, ρ, S, ε, Q0, E0, ok, er, w, kd, xr⟩
  refine rdE_go ok er w xr fun x S1 n1 ρ1 H1 v le1 ok1 er1 xr1 rx w => rdE_go ok1 er1 w xr1 fun y S2 n2 ρ2 H2 u le2 ok2 er2 xr2 ry w => ?_
  obtain ⟨i, rfl, rfl, w⟩ := optI_rp ry w
  exact ⟨i, rfl, slcR_ok ok2 (kd.mono (le1.trans le2)) (rx.mono le2) w⟩
theorem s_slH {fl : Bool} {a lo : IE} {ea el : Expr} {pos p2 : Pos} (ha : PE X ea ((rdE P Φ ca Wx X) a)) (hl : PE X el ((rdE P Φ ca Wx X) lo)) : PE X (.Subscript ea (.Slice none (some el) none p2) pos) ((rdE P Φ ca Wx X) (.slH fl a lo)) := by
  refine PE.imp (pe_slice slR_best ha po_none (po_some hl)) ?_
  rintro σ H Q ⟨n, ρ, S, ε, Q0, E0, ok, er, w, kd, xr⟩
  refine rdE_go ok er w xr fun x S1 n1 ρ1 H1 v le1 ok1 er1 xr1 rx w => rdE_go ok1 er1 w xr1 fun y S2 n2 ρ2 H2 u le2 ok2 er2 xr2 ry w => ?_
  obtain ⟨i, rfl, rfl, w⟩ := optI_rp ry w
  exact ⟨i, rfl, slcR_ok ok2 (kd.mono (le1.trans le2)) (rx.mono le2) w⟩
theorem s_slB {fl : Bool} {a lo hi : IE} {ea el eh : Expr} {pos p2 : Pos} (ha : PE X ea ((rdE P Φ ca Wx X) a)) (hl : PE X el ((rdE P Φ ca Wx X) lo)) (hh : PE X eh ((rdE P Φ ca Wx X) hi)) : PE X (.Subscript ea (.Slice (some el) (some eh) none p2) pos) ((rdE P Φ ca Wx X) (.slB fl a lo hi)) := by
  refine PE.imp (pe_slice slR_best ha (po_some hl) (po_some hh)) ?_
  rintro σ H Q ⟨n, ρ, S, ε, Q0, E0, ok, er, w, kd, xr⟩
  refine rdE_go ok er w xr fun x S1 n1 ρ1 H1 v le1 ok1 er1 xr1 rx w => rdE_go ok1 er1 w xr1 fun y S2 n2 ρ2 H2 u le2 ok2 er2 xr2 ry w => ?_
  obtain ⟨i, rfl, rfl, w⟩ := optI_rp ry w
  refine ⟨i, rfl, rdE_go ok2 er2 w xr2 fun z S3 n3 ρ3 H3 v3 le3 ok3 er3 xr3 rz w => ?_⟩
  obtain ⟨j, rfl, rfl, w⟩ := optI_rp rz w
  exact ⟨j, rfl, slcR_ok ok3 (kd.mono ((le1.trans le2).trans le3)) ((rx.mono le2).mono le3) w⟩
theorem s_nil : PA X [] ((rdA P Φ ca Wx X) .nil) := PA.imp pa_nil fun σ H Q ⟨n, ρ, S, ε, Q0, E0, ok, er, w, kd, xr⟩ => kd [] _ _ _ _ [] rfl Le.refl ok .nil w
theorem s_cons {a : IE} {r : IA} {e : Expr} {es : List Expr} (ha : PE X e ((rdE P Φ ca Wx X) a)) (hr : PA X es ((rdA P Φ ca Wx X) r)) (hp : plX e = true) : PA X (e :: es) ((rdA P Φ ca Wx X) (.cons a r)) := by
  refine PA.imp (pa_cons ha hr (pl_star hp es X.env)) ?_
  rintro σ H Q ⟨n, ρ, S, ε, Q0, E0, ok, er, w, kd, xr⟩
  refine rdE_go ok er w xr fun x S1 n1 ρ1 H1 v le1 ok1 er1 xr1 rx w => rdA_go ok1 er1 w xr1 fun y S2 n2 ρ2 H2 u el le2 ok2 er2 xr2 ry w => ?_
  exact kd _ _ _ _ _ _ (by show y.length + 1 = lenA r + 1; rw [el]) (le1.trans le2) ok2 (.cons (rx.mono le2) ry) w
end
end TH
namespace TH
open PySem PySem.Spec PyProof.Rows L2
theorem boot_bf (b : BF) : bootBuiltins (bfN b) = some (bfV b) := by
  cases b
  · exact boot_len
  · exact boot_sorted
  · exact boot_all
  · exact boot_list
  · exact boot_tuple
  · exact boot_dict
  · exact boot_abs
theorem boot_ty (t : Ty) : bootBuiltins (tyN t) = some (.type (tyS t)) := by
  cases t
  · exact boot_int
  · exact boot_bool
  · exact boot_str
  · exact boot_tuple
  · exact boot_list
theorem bfN_blt (b : BF) : bfN b ∈ bltL := by cases b <;> decide
theorem tyN_blt (t : Ty) : tyN t ∈ bltL := by cases t <;> decide
theorem blt_nm : ∀ x ∈ bltL, x ≠ ("__name__" : Str) := by decide
section
variable {G : Sg} {P : Prog} {Φ : FnSem} {fA : Nat → Addr} {ca : Nat → Value} {Γ : Gm} {k : Nat} {Wx : XK} {X : Cx}
theorem s_tup {as : IA} {es : List Expr} {j : Nat} {pos : Pos} (ha : PA X es ((rdA P Φ ca Wx X) as)) (hz : lenA as ≤ SZ) : PE X (.Tuple es j pos) ((rdE P Φ ca Wx X) (.tup as)) := by
  refine PE.imp (pe_tup ha) ?_
  rintro σ H Q ⟨n, ρ, S, ε, Q0, E0, ok, er, w, kd, xr⟩
  refine rdA_go ok er w xr fun x S1 n1 ρ1 H1 v el le1 ok1 er1 xr1 rx w => ?_
  have z : x.length ≤ SZ := by rw [el]; exact hz
  exact ⟨by rw [← rx.length]; exact z, newT_ok ok1 (kd.mono le1) rx z w⟩
theorem s_lst {fl : Bool} {as : IA} {es : List Expr} {pos : Pos} (ha : PA X es ((rdA P Φ ca Wx X) as)) (hz : lenA as ≤ SZ) : PE X (.List es pos) ((rdE P Φ ca Wx X) (.lst fl as)) := by
  refine PE.imp (pe_lst ha) ?_
  rintro σ H Q ⟨n, ρ, S, ε, Q0, E0, ok, er, w, kd, xr⟩
  refine rdA_go ok er w xr fun x S1 n1 ρ1 H1 v el le1 ok1 er1 xr1 rx w => ?_
  have z : x.length ≤ SZ := by rw [el]; exact hz
  exact ⟨by rw [← rx.length]; exact z, newL_ok ok1 (kd.mono le1) rx z w⟩
theorem s_call (c : Cok G P Φ fA ca Γ k Wx X) {f : Nat} {x : Str} {as : IA} {e : Expr} {es : List Expr} {p pos : Pos} (h1 : G.fns[f]? = some x) (h2 : glB Γ.sc x = true) (ha : PA X (e :: es) ((rdA P Φ ca Wx X) as)) (hp : plX e = true) (hps : plXs es = true) : PE X (.Call (.Name x p) (e :: es) [] pos) ((rdE P Φ ca Wx X) (.call f as)) := by
  obtain ⟨fd, ps, np, mg, kp, bs, fl, F⟩ := c.fns f x h1
  obtain ⟨hg, hd⟩ := c.gl h2
  refine PE.imp (pe_callS F c.room hg mg kp bs (fun σ => passAt c.tk σ) ha hd (pl_star hp es X.env) (pls_plain hps _ _)) ?_
  rintro σ H Q ⟨n, ρ, S, ε, Q0, E0, ok, er, w, kd, xr⟩
  refine rdA_go ok er w xr fun ds S1 n1 ρ1 H1 vs el le1 ok1 er1 xr1 rx w => ?_
  exact ⟨n1, ρ1, S1, ds, Q0, E0, ok1, rx, fl _ _ _ _ w, w, kd.mono le1, xr1⟩
theorem s_bf (c : Cok G P Φ fA ca Γ k Wx X) {b : BF} {fl : Bool} {as : IA} {e : Expr} {es : List Expr} {p pos : Pos} (h2 : glB Γ.sc (bfN b) = true) (ha : PA X (e :: es) ((rdA P Φ ca Wx X) as)) (hp : plX e = true) (hps : plXs es = true) : PE X (.Call (.Name (bfN b) p) (e :: es) [] pos) ((rdE P Φ ca Wx X) (.bf b fl as)) := by
  obtain ⟨hg, hd⟩ := c.gl h2
  have key : PE X (.Call (.Name (bfN b) p) (e :: es) [] pos) (tCB (bCl X (bfV b)) ((rdA P Φ ca Wx X) as)) := by
    have hm := c.blt _ (bfN_blt b)
    have hn := blt_nm _ (bfN_blt b)
    have hv := boot_bf b
    have cr : CallR X (bfV b) (bCl X (bfV b)) := callR_best
    generalize bfN b = z at *
    cases b with
    | len => exact pe_callB cr hg hm hv ha hn hd (pl_star hp es X.env) (pls_plain hps _ _)
    | sorted => exact pe_callB cr hg hm hv ha hn hd (pl_star hp es X.env) (pls_plain hps _ _)
    | all => exact pe_callB cr hg hm hv ha hn hd (pl_star hp es X.env) (pls_plain hps _ _)
    | abs => exact pe_callB cr hg hm hv ha hn hd (pl_star hp es X.env) (pls_plain hps _ _)
    | list => exact pe_callTy cr hg hm hv ha hn hd (pl_star hp es X.env) (pls_plain hps _ _)
    | tuple => exact pe_callTy cr hg hm hv ha hn hd (pl_star hp es X.env) (pls_plain hps _ _)
    | dict => exact pe_callTy cr hg hm hv ha hn hd (pl_star hp es X.env) (pls_plain hps _ _)
  refine PE.imp key ?_
  rintro σ H Q ⟨n, ρ, S, ε, Q0, E0, ok, er, w, kd, xr⟩
  refine rdA_go ok er w xr fun ds S1 n1 ρ1 H1 vs el le1 ok1 er1 xr1 rx w => ?_
  exact bfR_ok c.calm ok1 (kd.mono le1) rx w
theorem s_isi (c : Cok G P Φ fA ca Γ k Wx X) {a : IE} {t : Ty} {e : Expr} {p p2 pos : Pos} (h2 : glB Γ.sc ("isinstance" : Str) = true) (h3 : glB Γ.sc (tyN t) = true) (ha : PE X e ((rdE P Φ ca Wx X) a)) (hp : plX e = true) : PE X (.Call (.Name "isinstance" p) [e, .Name (tyN t) p2] [] pos) ((rdE P Φ ca Wx X) (.isi a t)) := by
  obtain ⟨hg, hd⟩ := c.gl h2
  obtain ⟨hg3, hd3⟩ := c.gl h3
  have ht : PE X (.Name (tyN t) p2) (tC (.ty (tyS t))) := pe_bltn hg3 (c.blt _ (tyN_blt t)) (boot_ty t) rfl (blt_nm _ (tyN_blt t)) hd3
  have pp : plXs [Expr.Name (tyN t) p2] = true := rfl
  refine PE.imp (pe_callB callR_best hg (c.blt _ (by decide)) boot_isinstance (pa_cons ha (pa_cons ht pa_nil) (pl_star hp _ X.env)) (by decide) hd (pl_star hp _ X.env) (pls_plain pp _ _)) ?_
  rintro σ H Q ⟨n, ρ, S, ε, Q0, E0, ok, er, w, kd, xr⟩
  refine rdE_go ok er w xr fun x S1 n1 ρ1 H1 v le1 ok1 er1 xr1 rx w => ?_
  exact isiR_ok ok1 (kd.mono le1) rx w
theorem s_dic0 {fl : Bool} {pos : Pos} : PE X (.Dict [] [] pos) ((rdE P Φ ca Wx X) (.dic0 fl)) := by
  refine PE.imp pe_dnewK ?_
  rintro σ H Q ⟨n, ρ, S, ε, Q0, E0, ok, er, w, kd, xr⟩ p hp
  have w : newD fl [] S Q0 := w
  cases fl with
  | false =>
    have w : Q0 (.idic []) S := w
    refine kd _ S n ρ _ _ (Le.same ok (same_upd hp)) (ok.same (same_upd hp)) ?_ w
    refine .idic (ks := []) (ds := []) (vs := []) (.inl upd_same) (Nat.zero_le _) rfl List.nodup_nil (fun t => ?_) .nil .nil
    obtain ⟨u, hu⟩ := Trk.some_of ok t
    rw [hp] at hu; cases hu
  | true =>
    have w : ∀ n, S n = none → Q0 (.ref n) (S.set n (.dic [] false)) := w
    refine kd _ _ (n + 1) (rho ρ n p) _ _ (Le.new ok hp) (Ok.new (o := .dic [] false) ok hp ⟨[], [], [], rfl, rfl, List.nodup_nil, Nat.zero_le _, .nil, .nil, upd_same⟩) ?_ (w n ok.none_n)
    have := Rp.ref (K := X.K) (n := n + 1) (ρ := rho ρ n p) (S := S.set n (.dic [] false)) (H := upd H p (.dK [])) (Nat.lt_succ_self n)
    rw [rho_same] at this
    exact this
/-! ### methods -/
theorem attrB_base {o : Expr} (h : attrB o = true) (name : Str) (env : PySem.Env) : attributeBase o name env (eval o env) = eval o env := by
  cases o with
  | Call f as kw p =>
    cases as with
    | nil => exact absurd h Bool.false_ne_true
    | cons a as => cases f <;> rfl
  | _ => rfl
def bmT : BM → String
  | .append => "list" | .pop => "list" | .get => "dict" | .extend => "list"
def bmI : BM → String
  | .append => "list.append" | .pop => "list.pop" | .get => "dict.get" | .extend => "list.extend"
theorem bm_facts (b : BM) : PlainAttrs (bmT b) ∧ Slot (bmT b) (bmS b) (bmI b) ∧ typeOf (.builtin (bmI b)) = pure (.type "method_descriptor") := by
  cases b
  · exact ⟨PySem.F.plainAttrs_list, PySem.F.slot_list_append, PySem.F.type_list_append⟩
  · exact ⟨PySem.F.plainAttrs_list, PySem.F.slot_list_pop, PySem.F.type_list_pop⟩
  · exact ⟨PySem.F.plainAttrs_dict, PySem.F.slot_dict_get, PySem.F.type_dict_get⟩
  · exact ⟨PySem.F.plainAttrs_list, PySem.F.slot_list_extend, PySem.F.type_list_extend⟩
theorem s_bm (c : Cok G P Φ fA ca Γ k Wx X) {b : BM} {fl : Bool} {o : IE} {as : IA} {eo e : Expr} {es : List Expr} {apos cpos : Pos} (ho : PE X eo ((rdE P Φ ca Wx X) o)) (ha : PA X (e :: es) ((rdA P Φ ca Wx X) as)) (hb : attrB eo = true) (hl : (apos.endLine == cpos.line) = true) (hf : es.length + 1 < 30) (hp : plX e = true) (hps : plXs es = true) :
    PE X (.Call (.Attribute eo (bmS b) apos) (e :: es) [] cpos) ((rdE P Φ ca Wx X) (.bm b fl o as)) := by
  have pp : plXs (e :: es) = true := by show (plX e && plXs es) = true; rw [hp, hps]; rfl
  refine PE.imp (pe_bmX ho ha (attrB_base hb _ _) ?_ hl (pl_star hp es X.env) (pls_plain hps _ _)) ?_
  · rw [pls_all pp]
    show (true && true && decide ((e :: es).length + 0 + 0 < 30)) = true
    rw [decide_eq_true (by show es.length + 1 + 0 + 0 < 30; exact hf)]; rfl
  rintro σ H Q ⟨n, ρ, S, ε, Q0, E0, ok, er, w, kd, xr⟩
  refine rdE_go ok er w xr fun x S1 n1 ρ1 H1 v le1 ok1 er1 xr1 rx ⟨ty, w⟩ => ?_
  obtain ⟨f1, f2, f3⟩ := bm_facts b
  refine ⟨bmT b, bmI b, f1, f2, f3, ?_, rdA_go ok1 er1 w xr1 fun ds S2 n2 ρ2 H2 vs el le2 ok2 er2 xr2 ry w => ?_⟩
  · have lst : (lstM S1 x).isSome = true → TyIs X "list" v H1 := fun h => TyIs.of (by
      obtain ⟨l, e⟩ := Option.isSome_iff_exists.mp h
      obtain ⟨a, vs, rfl, hh, _⟩ := lstM_ok ok1 e rx
      exact .inl ⟨rfl, vs, SqL.of hh⟩)
    cases b with
    | append => exact lst ty
    | pop => exact lst ty
    | extend => exact lst ty
    | get =>
      obtain ⟨l, e⟩ := Option.isSome_iff_exists.mp (show (dicOf S1 x).isSome = true from ty)
      obtain ⟨a, ks, ds, vs, rfl, hh, _⟩ := dicOf_ok ok1 e rx
      intro pins s σ v I r
      cases r
      have g : DGet H1 a (kV (.inl 0)) _ := .inl ⟨_, .inl 0, hh, rfl, rfl⟩
      exact ⟨dict_typeIs I g, dict_noDict I g⟩
  · exact bmR_ok c.hu ok2 (kd.mono (le1.trans le2)) (bmI b) (by cases b <;> rfl) (rx.mono le2) ry w
end
end TH
namespace TH
open PySem PySem.Spec PyProof.Rows L2
/-! ### walks -/
/-- the iterator J gives the items of w, while what is walked stays -/
def WkR (K : PySem.W.Frag) (n : Nat) (ρ : Rho) (S : Sto) (H : Hp) (w : Wk) (J : It) : Prop :=
  ∀ n' ρ' S' H', Le0 K n ρ S H n' ρ' S' H' → Ok K n' ρ' S' H' → w.still S' → ∀ i,
    (i < w.items.length → J.go i H' ∧ ∀ x H'', J.yld i H' x H'' → Le K n' ρ' S' H' n' ρ' S' H'' ∧ Ok K n' ρ' S' H'' ∧ ∃ d, w.items[i]? = some d ∧ Rp K n' ρ' S' H'' d x) ∧ (w.items.length ≤ i → J.stop i H')
def bIt (X : Cx) (tg : Expr) (x : V) (H : Hp) (R : It → Hp → Prop) : Prop := ∀ (pins : List (Addr × Obj)) (s : Shared) (σ : L2.St) (v : Value), Inv X pins σ H s → RelV x v → wpAny (model X.prog X.w) X.A (pyIter v) (PIE X pins σ tg R) X.xe s
section
variable {X : Cx} {tg : Expr} {H : Hp} {R : It → Hp → Prop}
theorem pi_best {e : Expr} {te : TE} (h : PE X e te) : PI X tg e (fun σ H R => te σ H fun x H1 => bIt X tg x H1 R) := by
  refine ⟨fun pins s σ H R I q => ?_⟩
  exact thn (h.run pins s σ H _ I q) fun v s1 ⟨x, H1, I1, r1, q1⟩ => q1 pins s1 σ v I1 r1
theorem bIt_list {a : Addr} {xs : List V} (hq : SqL X.K H a xs) (q : R (Itl X.K a) H) : bIt X tg (.ref a) H R := by
  intro pins s1 σ v I1 r1
  cases r1
  obtain ⟨its, rv, p, hz⟩ := I1.list hq
  refine wpAny_pyIter_list p.isList ?_
  refine ⟨s1.heap.objs.size, [s1.heap.objs.size], _, _, H, rfl, I1.kept (t' := s1.toks) fun b o e => Heap.get?_push_of_some _ e, turn_list a _, ⟨_, Heap.get?_push_size _ rfl, rfl, rfl⟩, fun b hb => ?_, q⟩
  have e : b = s1.heap.objs.size := by simpa using hb
  subst e
  exact I1.fpOk (Nat.le_refl _) (I1.hok.fresh (Nat.le_refl _))
theorem bIt_tup {a : Addr} {xs : List V} (hq : SqT X.K H a xs) (q : R (Itt X.K a) H) : bIt X tg (.ref a) H R := by
  intro pins s1 σ v I1 r1
  cases r1
  obtain ⟨its, rv, p, hz⟩ := I1.tuple hq
  refine wpAny_pyIter_tuple (show s1.heap.IsTuple a its.toArray from p) ?_
  refine ⟨s1.heap.objs.size, [s1.heap.objs.size], _, _, H, rfl, I1.kept (t' := s1.toks) fun b o e => Heap.get?_push_of_some _ e, turn_tuple a _, ⟨_, Heap.get?_push_size _ rfl, rfl, rfl⟩, fun b hb => ?_, q⟩
  have e : b = s1.heap.objs.size := by simpa using hb
  subst e
  exact I1.fpOk (Nat.le_refl _) (I1.hok.fresh (Nat.le_refl _))
theorem bIt_str {x : Str} (q : R (Its x) H) : bIt X tg (.str x) H R := by
  intro pins s1 σ v I1 r1
  obtain ⟨t, rfl⟩ := r1
  cases ha : x.cps.all (· < 128)
  · exact wpAny_pyIter_wide ha (pi_one (tk := s1.toks) I1 _ (turn_str _ x t "str_iterator" (.inr rfl)) ⟨_, Heap.get?_push_size _ rfl, rfl, rfl⟩ q)
  · exact wpAny_pyIter_ascii ha (pi_one (tk := s1.toks) I1 _ (turn_str _ x t "str_ascii_iterator" (.inl rfl)) ⟨_, Heap.get?_push_size _ rfl, rfl, rfl⟩ q)
theorem bIt_keys {a : Addr} {o : Obj} {kvs : List (Key × V)} (h : H a = some (.frz o (.dK kvs))) (q : R (Itk a o kvs) H) : bIt X tg (.ref a) H R := by
  intro pins s1 σ v I1 r1
  cases r1
  obtain ⟨hs, hgd, hx, es, ep, vs, hdt, hsz, kv, hm⟩ := I1.frzK h
  refine iter_keys hs hgd hx hdt (pi_one (tk := s1.toks) I1 _ (turn_keys _ hdt) ⟨_, Heap.get?_push_size _ rfl, rfl, ?_⟩ q)
  rw [hsz] <;> rfl
theorem bIt_lock {a : Addr} {kvs : List (Key × V)} {v : V} (h : H a = some (.dK kvs)) (q : ∀ od, bIt X tg v (upd H a (.frz od (.dK kvs))) R) : bIt X tg v H R := by
  intro pins s1 σ u I1 r1
  obtain ⟨od, I2⟩ := I1.lock h trivial
  exact q od pins s1 σ u I2 r1
/-- a dict is locked where it comes -/
def tLk (t : TE) : TE := fun σ H Q => t σ H fun v H1 => ∃ a kvs, v = .ref a ∧ ((∃ o, H1 a = some (.frz o (.dK kvs)) ∧ Q v H1) ∨ (H1 a = some (.dK kvs) ∧ ∀ od, Q v (upd H1 a (.frz od (.dK kvs)))))
theorem pe_lk {e : Expr} {t : TE} (h : PE X e t) : PE X e (tLk t) := by
  refine ⟨fun pins s σ H Q I q => ?_⟩
  refine thn (h.run pins s σ H _ I q) fun u s1 ⟨x, H1, I1, r1, a, kvs, ex, q1⟩ => ?_
  rcases q1 with ⟨o, h1, q1⟩ | ⟨h1, q1⟩
  · exact ⟨x, H1, I1, r1, q1⟩
  · obtain ⟨od, I2⟩ := I1.lock h1 trivial
    exact ⟨x, _, I2, r1, q1 od⟩
end
section
variable {G : Sg} {P : Prog} {Φ : FnSem} {fA : Nat → Addr} {ca : Nat → Value} {Γ : Gm} {k : Nat} {Wx : XK} {X : Cx}
/-- a list that stays, walked -/
theorem wk_list {n : Nat} {ρ : Rho} {S : Sto} {H : Hp} {x : D} {l : List D} {src : Option (Nat × O)} {a : Addr} (rx : Rp X.K n ρ S H x (.ref a)) (hs : ∀ S', Wk.still ⟨l, src⟩ S' → lstOf S' x = some l) : WkR X.K n ρ S H ⟨l, src⟩ (Itl X.K a) := by
  intro n' ρ' S' H' le ok st i
  obtain ⟨a', vs, ea, sq, rl, _⟩ := lstOf_ok ok (hs _ st) (rx.mono0 le)
  cases ea
  refine ⟨fun hi => ⟨?_, fun x H'' hy => ?_⟩, fun hi => ⟨vs, sq, by rw [← rl.length]; exact hi⟩⟩
  · obtain ⟨v, ev, _⟩ := rl.get (List.getElem?_eq_getElem hi)
    exact ⟨vs, v, sq, ev⟩
  · obtain ⟨rfl, hy⟩ := hy
    refine ⟨Le.refl, ok, _, List.getElem?_eq_getElem hi, ?_⟩
    obtain ⟨v, ev, r⟩ := rl.get (List.getElem?_eq_getElem hi)
    have := hy vs sq
    rw [ev] at this; cases this
    exact r
theorem wk_tup {n : Nat} {ρ : Rho} {S : Sto} {H : Hp} {l : List D} {a : Addr} {vs : List V} (sq : SqT X.K H a vs) (rl : RpL X.K n ρ S H l vs) : WkR X.K n ρ S H ⟨l, none⟩ (Itt X.K a) := by
  intro n' ρ' S' H' le ok st i
  have sq := le.tup _ _ sq
  have rl := rl.mono0 le
  refine ⟨fun hi => ⟨?_, fun x H'' hy => ?_⟩, fun hi => ⟨vs, sq, by rw [← rl.length]; exact hi⟩⟩
  · obtain ⟨v, ev, _⟩ := rl.get (List.getElem?_eq_getElem hi)
    exact ⟨vs, v, sq, ev⟩
  · obtain ⟨rfl, hy⟩ := hy
    refine ⟨Le.refl, ok, _, List.getElem?_eq_getElem hi, ?_⟩
    obtain ⟨v, ev, r⟩ := rl.get (List.getElem?_eq_getElem hi)
    have := hy vs sq
    rw [ev] at this; cases this
    exact r
theorem wk_str {n : Nat} {ρ : Rho} {S : Sto} {H : Hp} {s : Str} (h : PyData.strOk s = true) : WkR X.K n ρ S H ⟨s.cps.toList.map fun c => .str ⟨#[c]⟩, none⟩ (Its s) := by
  intro n' ρ' S' H' le ok st i
  have hl : (s.cps.toList.map fun c => D.str ⟨#[c]⟩).length = s.cps.size := by simp
  refine ⟨fun hi => ⟨by show i < s.cps.size; rw [← hl]; exact hi, fun x H'' hy => ?_⟩, fun hi => by show s.cps.size ≤ i; rw [← hl]; exact hi⟩
  obtain ⟨rfl, c, hc, rfl⟩ := hy
  refine ⟨Le.refl, ok, .str ⟨#[c]⟩, ?_, .str ?_⟩
  · show (s.cps.toList.map fun c => D.str ⟨#[c]⟩)[i]? = _
    rw [List.getElem?_map, Array.getElem?_toList, hc]; rfl
  · obtain ⟨hi', e⟩ := Array.getElem?_eq_some_iff.mp hc
    have := (Array.all_eq_true.mp h) i hi'
    rw [e] at this
    show (#[c] : Array _).all (· < 0x110000) = true
    simpa using this
theorem rngL_get : ∀ (m : Nat) (lo : Int) (i : Nat), i < m → (rngL lo m)[i]? = some (.int (lo + i))
  | 0, _, _, h => absurd h (Nat.not_lt_zero _)
  | m + 1, lo, 0, _ => by show some (D.int lo) = _; rw [show lo + ((0 : Nat) : Int) = lo by simp]
  | m + 1, lo, i + 1, h => by
    show (rngL (lo + 1) m)[i]? = _
    rw [rngL_get m (lo + 1) i (Nat.lt_of_succ_lt_succ h)]
    have : lo + 1 + (i : Int) = lo + ((i + 1 : Nat) : Int) := by omega
    rw [this]
theorem rngL_len : ∀ (m : Nat) (lo : Int), (rngL lo m).length = m
  | 0, _ => rfl
  | m + 1, lo => by show (rngL (lo + 1) m).length + 1 = _; rw [rngL_len]
theorem wk_rng {n : Nat} {ρ : Rho} {S : Sto} {H : Hp} {lo : Int} {m : Nat} : WkR X.K n ρ S H ⟨rngL lo m, none⟩ (Itr lo m) := by
  intro n' ρ' S' H' le ok st i
  refine ⟨fun hi => ?_, fun hi => by show m ≤ i; have : (rngL lo m).length ≤ i := hi; rw [rngL_len] at this; exact this⟩
  have hi : i < m := by have : i < (rngL lo m).length := hi; rwa [rngL_len] at this
  refine ⟨hi, fun x H'' hy => ?_⟩
  obtain ⟨rfl, rfl⟩ := hy
  exact ⟨Le.refl, ok, _, rngL_get m lo i hi, .int _⟩
theorem zip_get {α β : Type} : ∀ {as : List α} {bs : List β} {i : Nat} {a : α} {b : β}, (as.zip bs)[i]? = some (a, b) → as[i]? = some a ∧ bs[i]? = some b := fun {as bs i a b} h => by
  rw [List.getElem?_zip_eq_some] at h; exact h
section
variable {n : Nat} {ρ : Rho} {S : Sto} {H : Hp} {a : Addr} {o : Obj} {ks : List Key} {ds : List D} {vs : List V}
theorem zl (el : ks.length = ds.length) (r : RpL X.K n ρ S H ds vs) : (ks.zip vs).length = ks.length := by
  rw [List.length_zip, ← r.length, el, Nat.min_self]
theorem wk_keys (h : H a = some (.frz o (.dK (ks.zip vs)))) (el : ks.length = ds.length) (rk : RpL X.K n ρ S H (ks.map kD) (ks.map kV)) (r : RpL X.K n ρ S H ds vs) : WkR X.K n ρ S H ⟨((ks.map kD).zip ds).map Prod.fst, none⟩ (Itk a o (ks.zip vs)) := by
  rw [List.map_fst_zip (by rw [List.length_map]; exact Nat.le_of_eq el)]
  intro n' ρ' S' H' le ok st i
  have hz := zl el r
  have hl : (ks.map kD).length = ks.length := List.length_map _
  refine ⟨fun hi => ⟨⟨le.frz _ _ _ h, by rw [hz, ← hl]; exact hi⟩, fun x H'' hy => ?_⟩, fun hi => ⟨le.frz _ _ _ h, by rw [hz, ← hl]; exact hi⟩⟩
  obtain ⟨rfl, k, v, e, rfl⟩ := hy
  obtain ⟨e1, _⟩ := zip_get e
  obtain ⟨w, ew, rw'⟩ := (rk.mono0 le).get (i := i) (d := kD k) (by rw [List.getElem?_map, e1]; rfl)
  rw [List.getElem?_map, e1] at ew; cases ew
  exact ⟨Le.refl, ok, kD k, by show (ks.map kD)[i]? = _; rw [List.getElem?_map, e1]; rfl, rw'⟩
theorem wk_vals (h : H a = some (.frz o (.dK (ks.zip vs)))) (el : ks.length = ds.length) (r : RpL X.K n ρ S H ds vs) : WkR X.K n ρ S H ⟨((ks.map kD).zip ds).map Prod.snd, none⟩ (Itd a o (ks.zip vs)) := by
  rw [List.map_snd_zip (by rw [List.length_map]; exact Nat.le_of_eq el.symm)]
  intro n' ρ' S' H' le ok st i
  have hz := zl el r
  refine ⟨fun hi => ⟨⟨le.frz _ _ _ h, by rw [hz, el]; exact hi⟩, fun x H'' hy => ?_⟩, fun hi => ⟨le.frz _ _ _ h, by rw [hz, el]; exact hi⟩⟩
  obtain ⟨rfl, k, e⟩ := hy
  obtain ⟨_, e2⟩ := zip_get e
  have r' := r.mono0 le
  obtain ⟨v, ev, rv⟩ := r'.get (List.getElem?_eq_getElem hi)
  rw [e2] at ev; cases ev
  exact ⟨Le.refl, ok, _, List.getElem?_eq_getElem hi, rv⟩
theorem wk_itms (h : H a = some (.frz o (.dK (ks.zip vs)))) (el : ks.length = ds.length) (rk : RpL X.K n ρ S H (ks.map kD) (ks.map kV)) (r : RpL X.K n ρ S H ds vs) : WkR X.K n ρ S H ⟨((ks.map kD).zip ds).map (fun p => D.tup [p.1, p.2]), none⟩ (Iti a o (ks.zip vs)) := by
  intro n' ρ' S' H' le ok st i
  have hz := zl el r
  have hl : (((ks.map kD).zip ds).map (fun p => D.tup [p.1, p.2])).length = ks.length := by rw [List.length_map, List.length_zip, List.length_map, ← el, Nat.min_self]
  refine ⟨fun hi => ⟨⟨le.frz _ _ _ h, by rw [hz, ← hl]; exact hi⟩, fun x H'' hy => ?_⟩, fun hi => ⟨le.frz _ _ _ h, by rw [hz, ← hl]; exact hi⟩⟩
  obtain ⟨T, k, v, e, rfl, hT, rfl⟩ := hy
  obtain ⟨e1, e2⟩ := zip_get e
  have hik : i < ks.length := (List.getElem?_eq_some_iff.mp e1).1
  obtain ⟨w, ew, rk'⟩ := (rk.mono0 le).get (i := i) (d := kD k) (by rw [List.getElem?_map, e1]; rfl)
  rw [List.getElem?_map, e1] at ew; cases ew
  obtain ⟨v', ev, rv⟩ := (r.mono0 le).get (i := i) (List.getElem?_eq_getElem (by rw [← el]; exact hik))
  rw [e2] at ev; cases ev
  have sm : Same H' (upd H' T (.tup [kV k, v])) := same_upd hT
  refine ⟨Le.same ok sm, ok.same sm, .tup [kD k, ds[i]], ?_, .tup (.inl (.inl upd_same)) (by show 2 ≤ 16777216; decide) (.cons (rk'.mono (Le.same ok sm)) (.cons (rv.mono (Le.same ok sm)) .nil))⟩
  show (((ks.map kD).zip ds).map (fun p => D.tup [p.1, p.2]))[i]? = _
  rw [List.getElem?_map, (List.getElem?_zip_eq_some (z := (kD k, ds[i]'(by rw [← el]; exact hik)))).mpr ⟨by rw [List.getElem?_map, e1]; rfl, List.getElem?_eq_getElem _⟩]
  rfl
end
theorem Sto.set_self {S : Sto} {m : Nat} {o : O} (h : S m = some o) : S.set m o = S := by
  funext k
  unfold Sto.set
  split
  · rename_i e; rw [e, h]
  · rfl
/-- a dict that is walked -/
theorem dw_ok {n : Nat} {ρ : Rho} {S : Sto} {H : Hp} (ok : Ok X.K n ρ S H) {f : D × D → D} {x : D} {v : V} (rx : Rp X.K n ρ S H x v) {Q0 : Wk → Sto → Prop} (w : dwR f x S Q0) : ∃ (a : Addr) (ks : List Key) (ds : List D) (vs : List V), v = .ref a ∧ ks.length = ds.length ∧ ks.length ≤ SZ ∧
    ((∃ o, H a = some (.frz o (.dK (ks.zip vs))) ∧ RpL X.K n ρ S H (ks.map kD) (ks.map kV) ∧ RpL X.K n ρ S H ds vs ∧ Q0 ⟨((ks.map kD).zip ds).map f, none⟩ S) ∨
      (H a = some (.dK (ks.zip vs)) ∧ ∀ od, ∃ S', Le X.K n ρ S H n ρ S' (upd H a (.frz od (.dK (ks.zip vs)))) ∧ Ok X.K n ρ S' (upd H a (.frz od (.dK (ks.zip vs)))) ∧
        RpL X.K n ρ S' (upd H a (.frz od (.dK (ks.zip vs)))) (ks.map kD) (ks.map kV) ∧ RpL X.K n ρ S' (upd H a (.frz od (.dK (ks.zip vs)))) ds vs ∧ Q0 ⟨((ks.map kD).zip ds).map f, none⟩ S')) := by
  cases rx with
  | @idic a ks ds vs h z el nd ht rk r =>
    have w : Q0 ⟨((ks.map kD).zip ds).map f, none⟩ S := w
    refine ⟨a, ks, ds, vs, rfl, el, z, ?_⟩
    rcases h with h | ⟨o, h⟩
    · refine .inr ⟨h, fun od => ⟨S, Le.lock ok h ht, ok.lock h ht, rk.mono (Le.lock ok h ht), r.mono (Le.lock ok h ht), w⟩⟩
    · exact .inl ⟨o, h, rk, r, w⟩
  | @ref m hm =>
    have w : (match S m with
      | some (.dic l _) => Q0 ⟨l.map f, none⟩ (S.set m (.dic l true))
      | _ => False) := w
    split at w
    · rename_i l lk e
      obtain ⟨ks, ds, vs, a1, a2, a3, a4, a5, a6, a7⟩ := (ok.ob _ _ e).2
      subst a1
      refine ⟨_, ks, ds, vs, rfl, a2, a4, ?_⟩
      cases lk with
      | true =>
        obtain ⟨o, a7⟩ := a7
        rw [Sto.set_self e] at w
        exact .inl ⟨o, a7, a5, a6, w⟩
      | false =>
        have a7 : H (ρ m) = some (.dK (ks.zip vs)) := a7
        have nt : ∀ xs, ¬ Rd H (ρ m) (.tup xs) := fun xs q => by
          rcases q with q | ⟨o, q⟩ <;> rw [a7] at q <;> cases q
        refine .inr ⟨a7, fun od => ?_⟩
        have l1 : Le X.K n ρ S H n ρ (S.set m (.dic ((ks.map kD).zip ds) true)) (upd H (ρ m) (.frz od (.dK (ks.zip vs)))) := Le.write ok e rfl rfl a7 nt (fun ob w z => by cases z)
        exact ⟨_, l1, Ok.write ok e rfl rfl a7 nt (fun ob w z => by cases z) ⟨ks, ds, vs, rfl, a2, a3, a4, a5.mono l1, a6.mono l1, od, upd_same⟩, a5.mono l1, a6.mono l1, w⟩
    · exact w.elim
  | _ => exact False.elim w
variable (P Φ ca Wx X) in
def rdI (ir : II) : TI := fun σ H R => ∃ n ρ S ε Q0 E0, Ok X.K n ρ S H ∧ EnvR X.K n ρ S H ε σ ∧ wpI P Φ ir ε S Q0 E0 ∧
  (∀ w S' n' ρ' H' J, Le X.K n ρ S H n' ρ' S' H' → Ok X.K n' ρ' S' H' → WkR X.K n' ρ' S' H' w J → w.items.length ≤ SZ → Q0 w S' → R J H') ∧ XR ca X.K n ρ S H E0 Wx
theorem PI.imp {tg e : Expr} {t t' : TI} (h : PI X tg e t) (i : ∀ σ H Q, t' σ H Q → t σ H Q) : PI X tg e t' := ⟨fun pins s σ H Q I q => h.run pins s σ H Q I (i _ _ _ q)⟩
theorem s_ex {tg e : Expr} {a : IE} (ha : PE X e ((rdE P Φ ca Wx X) a)) : PI X tg e ((rdI P Φ ca Wx X) (.ex a)) := by
  refine PI.imp (pi_best ha) ?_
  rintro σ H R ⟨n, ρ, S, ε, Q0, E0, ok, er, w, kd, xr⟩
  refine rdE_go ok er w xr fun x S1 n1 ρ1 H1 v le1 ok1 er1 xr1 rx w => ?_
  have dic : ∀ {x : D} {v : V}, Rp X.K n1 ρ1 S1 H1 x v → dwR Prod.fst x S1 Q0 → bIt X tg v H1 R := fun {x v} rx w => by
    obtain ⟨a, ks, ds, vs, rfl, el, z, q⟩ := dw_ok ok1 rx w
    have hz : (((ks.map kD).zip ds).map Prod.fst).length ≤ SZ := by rw [List.length_map, List.length_zip, List.length_map, ← el, Nat.min_self]; exact z
    rcases q with ⟨o, h, rk, r, q⟩ | ⟨h, q⟩
    · exact bIt_keys h (kd _ _ _ _ _ _ le1 ok1 (wk_keys h el rk r) hz q)
    · refine bIt_lock h fun od => ?_
      obtain ⟨S2, le2, ok2, rk, r, q⟩ := q od
      exact bIt_keys upd_same (kd _ _ _ _ _ _ (le1.trans le2) ok2 (wk_keys upd_same el rk r) hz q)
  cases rx with
  | tup h z r => exact bIt_tup h (kd _ _ _ _ _ _ le1 ok1 (wk_tup h r) z w)
  | ilst h z ht r => exact bIt_list (SqL.of h) (kd _ _ _ _ _ _ le1 ok1 (wk_list (.ilst h z ht r) fun _ _ => rfl) z w)
  | @str s h => exact bIt_str (kd _ _ _ _ _ _ le1 ok1 (wk_str h) (by show (s.cps.toList.map _).length ≤ SZ; rw [List.length_map]; exact w.1) w.2)
  | @ref m hm =>
    have w : (match S1 m with
      | some (.lst l) => Q0 ⟨l, some (m, .lst l)⟩ S1
      | some (.rol l) => Q0 ⟨l, some (m, .rol l)⟩ S1
      | some (.dic l _) => Q0 ⟨l.map Prod.fst, none⟩ (S1.set m (.dic l true))
      | _ => False) := w
    split at w
    · rename_i l e
      obtain ⟨_, z, us, hv, rl⟩ := ok1.ob _ _ e
      refine bIt_list (SqL.of hv) (kd _ _ _ _ _ _ le1 ok1 (wk_list (x := .ref m) (.ref hm) fun S' st => ?_) z w)
      have st : S' m = some (.lst l) := st
      show (match S' m with
        | some (.lst l) => some l
        | some (.rol l) => some l
        | _ => none) = some l
      rw [st]
    · rename_i l e
      obtain ⟨_, z, us, hv, rl⟩ := ok1.ob _ _ e
      refine bIt_list hv.sq (kd _ _ _ _ _ _ le1 ok1 (wk_list (x := .ref m) (.ref hm) fun S' st => ?_) z w)
      have st : S' m = some (.rol l) := st
      show (match S' m with
        | some (.lst l) => some l
        | some (.rol l) => some l
        | _ => none) = some l
      rw [st]
    · rename_i l lk e
      have w2 : dwR Prod.fst (.ref m) S1 Q0 := by
        show (match S1 m with
          | some (.dic l _) => Q0 ⟨l.map Prod.fst, none⟩ (S1.set m (.dic l true))
          | _ => False)
        rw [e]; exact w
      exact dic (x := .ref m) (.ref hm) w2
    · exact w.elim
  | idic h z el nd ht rk r => exact dic (.idic h z el nd ht rk r) w
  | _ => exact False.elim w
theorem s_vals {tg e : Expr} {a : IE} {apos cpos : Pos} (ha : PE X e ((rdE P Φ ca Wx X) a)) (hb : attributeBase e "values" X.env (eval e X.env) = eval e X.env) (hl : (apos.endLine == cpos.line) = true) : PI X tg (.Call (.Attribute e "values" apos) [] [] cpos) ((rdI P Φ ca Wx X) (.vals a)) := by
  refine PI.imp (pi_values (pe_lk ha) hb hl) ?_
  rintro σ H R ⟨n, ρ, S, ε, Q0, E0, ok, er, w, kd, xr⟩
  refine rdE_go ok er w xr fun x S1 n1 ρ1 H1 v le1 ok1 er1 xr1 rx w => ?_
  obtain ⟨a, ks, ds, vs, rfl, el, z, q⟩ := dw_ok ok1 rx w
  have hz : (((ks.map kD).zip ds).map Prod.snd).length ≤ SZ := by rw [List.length_map, List.length_zip, List.length_map, ← el, Nat.min_self]; exact z
  refine ⟨a, ks.zip vs, rfl, ?_⟩
  rcases q with ⟨o, h, rk, r, q⟩ | ⟨h, q⟩
  · exact .inl ⟨o, h, a, o, _, rfl, h, kd _ _ _ _ _ _ le1 ok1 (wk_vals h el r) hz q⟩
  · refine .inr ⟨h, fun od => ?_⟩
    obtain ⟨S2, le2, ok2, rk, r, q⟩ := q od
    exact ⟨a, od, _, rfl, upd_same, kd _ _ _ _ _ _ (le1.trans le2) ok2 (wk_vals upd_same el r) hz q⟩
theorem s_itms {es : List Expr} {kk : Nat} {tpos : Pos} {e : Expr} {a : IE} {apos cpos : Pos} (ha : PE X e ((rdE P Φ ca Wx X) a)) (hb : attributeBase e "items" X.env (eval e X.env) = eval e X.env) (hl : (apos.endLine == cpos.line) = true) : PI X (.Tuple es kk tpos) (.Call (.Attribute e "items" apos) [] [] cpos) ((rdI P Φ ca Wx X) (.itms a)) := by
  refine PI.imp (pi_items (pe_lk ha) hb hl) ?_
  rintro σ H R ⟨n, ρ, S, ε, Q0, E0, ok, er, w, kd, xr⟩
  refine rdE_go ok er w xr fun x S1 n1 ρ1 H1 v le1 ok1 er1 xr1 rx w => ?_
  obtain ⟨a, ks, ds, vs, rfl, el, z, q⟩ := dw_ok ok1 rx w
  have hz : (((ks.map kD).zip ds).map (fun p => D.tup [p.1, p.2])).length ≤ SZ := by rw [List.length_map, List.length_zip, List.length_map, ← el, Nat.min_self]; exact z
  refine ⟨a, ks.zip vs, rfl, ?_⟩
  rcases q with ⟨o, h, rk, r, q⟩ | ⟨h, q⟩
  · exact .inl ⟨o, h, a, o, _, rfl, h, kd _ _ _ _ _ _ le1 ok1 (wk_itms h el rk r) hz q⟩
  · refine .inr ⟨h, fun od => ?_⟩
    obtain ⟨S2, le2, ok2, rk, r, q⟩ := q od
    exact ⟨a, od, _, rfl, upd_same, kd _ _ _ _ _ _ (le1.trans le2) ok2 (wk_itms upd_same el rk r) hz q⟩
theorem s_rng1 (c : Cok G P Φ fA ca Γ k Wx X) {tg e : Expr} {a : IE} {p pos : Pos} (h2 : glB Γ.sc ("range" : Str) = true) (ha : PE X e ((rdE P Φ ca Wx X) a)) (hp : plX e = true) : PI X tg (.Call (.Name "range" p) [e] [] pos) ((rdI P Φ ca Wx X) (.rng1 a)) := by
  obtain ⟨hg, hd⟩ := c.gl h2
  refine PI.imp (pi_range1 hg (c.blt _ (by decide)) (pa_cons ha pa_nil (pl_star hp _ _)) (pl_star hp _ _)) ?_
  rintro σ H R ⟨n, ρ, S, ε, Q0, E0, ok, er, w, kd, xr⟩
  refine rdE_go ok er w xr fun x S1 n1 ρ1 H1 v le1 ok1 er1 xr1 rx w => ?_
  obtain ⟨i, rfl, rfl, w⟩ := optI_rp rx w
  obtain ⟨⟨_, _, a1, a2, a3⟩, w⟩ := w
  have e0 : (i - 0).toNat = i.toNat := by rw [Int.sub_zero]
  rw [e0] at w
  exact ⟨i, rfl, a1, a2, kd _ _ _ _ _ _ le1 ok1 wk_rng (by show (rngL 0 i.toNat).length ≤ SZ; rw [rngL_len]; omega) w⟩
theorem s_rng2 (c : Cok G P Φ fA ca Γ k Wx X) {tg e e2 : Expr} {a b : IE} {p pos : Pos} (h2 : glB Γ.sc ("range" : Str) = true) (ha : PE X e ((rdE P Φ ca Wx X) a)) (hp : plX e = true) (hb : PE X e2 ((rdE P Φ ca Wx X) b)) (hp2 : plX e2 = true) : PI X tg (.Call (.Name "range" p) [e, e2] [] pos) ((rdI P Φ ca Wx X) (.rng2 a b)) := by
  obtain ⟨hg, hd⟩ := c.gl h2
  refine PI.imp (pi_range2 hg (c.blt _ (by decide)) (pa_cons ha (pa_cons hb pa_nil (pl_star hp2 _ _)) (pl_star hp _ _)) (by rw [pl_star hp, pl_star hp2]; rfl) (pl_star hp2 _ _)) ?_
  rintro σ H R ⟨n, ρ, S, ε, Q0, E0, ok, er, w, kd, xr⟩
  refine rdE_go ok er w xr fun x S1 n1 ρ1 H1 v le1 ok1 er1 xr1 rx w => rdE_go ok1 er1 w xr1 fun y S2 n2 ρ2 H2 u le2 ok2 er2 xr2 ry w => ?_
  obtain ⟨i, rfl, rfl, w⟩ := optI_rp rx w
  obtain ⟨j, rfl, rfl, w⟩ := optI_rp ry w
  obtain ⟨⟨a0, a1, a2, a3, a4⟩, w⟩ := w
  exact ⟨i, j, rfl, ⟨a0, a1, a2, a3⟩, kd _ _ _ _ _ _ (le1.trans le2) ok2 wk_rng (by show (rngL i (j - i).toNat).length ≤ SZ; rw [rngL_len]; omega) w⟩
end
end TH
namespace TH
open PySem PySem.Spec PyProof.Rows L2
/-! ### slots -/
theorem wipe_get {σ : L2.St} {j : Nat} : ∀ {vs : List Nat}, (L2.wipe σ vs)[j]? = if j ∈ vs ∧ j < σ.length then some none else σ[j]?
  | [] => by rw [if_neg (fun h => absurd h.1 List.not_mem_nil)]; rfl
  | v :: vs => by
    show ((L2.wipe σ vs).set v none)[j]? = _
    by_cases hv : v = j
    · subst hv
      by_cases hl : v < σ.length
      · rw [if_pos ⟨List.mem_cons_self, hl⟩, List.getElem?_set_self (by rw [wipe_length]; exact hl)]
      · rw [if_neg (fun h => hl h.2), List.getElem?_eq_none (by rw [List.length_set, wipe_length]; omega), List.getElem?_eq_none (by omega)]
    · rw [List.getElem?_set_ne hv, wipe_get]
      by_cases h : j ∈ vs ∧ j < σ.length
      · rw [if_pos h, if_pos ⟨List.mem_cons_of_mem _ h.1, h.2⟩]
      · rw [if_neg h, if_neg fun z => h ⟨(List.mem_cons.mp z.1).resolve_left (Ne.symm hv), z.2⟩]
theorem wipe_wipe {σ : L2.St} {vs : List Nat} : L2.wipe (L2.wipe σ vs) vs = L2.wipe σ vs := by
  refine List.ext_getElem? fun j => ?_
  rw [wipe_get, wipe_get, wipe_length]
  by_cases h : j ∈ vs ∧ j < σ.length
  · rw [if_pos h, if_pos h]
  · rw [if_neg h]
theorem wipe_set {σ : L2.St} {vs : List Nat} {i : Nat} {x : Option V} (h : i ∈ vs) : L2.wipe (σ.set i x) vs = L2.wipe σ vs := by
  refine List.ext_getElem? fun j => ?_
  rw [wipe_get, wipe_get, List.length_set]
  by_cases hj : j ∈ vs ∧ j < σ.length
  · rw [if_pos hj, if_pos hj]
  · rw [if_neg hj, if_neg hj]
    by_cases e : i = j
    · subst e
      rw [List.getElem?_eq_none (by rw [List.length_set]; exact Nat.le_of_not_lt fun z => hj ⟨h, z⟩), List.getElem?_eq_none (Nat.le_of_not_lt fun z => hj ⟨h, z⟩)]
    · rw [List.getElem?_set_ne e]
/-- only these slots may differ -/
def Upd (is : List Nat) (σ σ' : L2.St) : Prop := ∀ vs, (∀ i ∈ is, i ∈ vs) → L2.wipe σ' vs = L2.wipe σ vs
section
variable {G : Sg} {P : Prog} {Φ : FnSem} {fA : Nat → Addr} {ca : Nat → Value} {Γ : Gm} {k : Nat} {Wx : XK} {X : Cx}
variable (X) in
def rdG (t : Tgt) : TG := fun v σ H Q => ∃ n ρ S ε d Q0, Ok X.K n ρ S H ∧ EnvR X.K n ρ S H ε σ ∧ Rp X.K n ρ S H d v ∧ asgT t d ε Q0 ∧ ∀ ε' σ', EnvR X.K n ρ S H ε' σ' → Upd (tgIds t) σ σ' → Q0 ε' → Q σ' H
theorem PG.imp {e : Expr} {t t' : TG} (h : PG X e t) (i : ∀ v σ H Q, t' v σ H Q → t v σ H Q) : PG X e t' := ⟨fun pins s σ H v u Q I r q => h.run pins s σ H v u Q I r (i _ _ _ _ q)⟩
theorem PGs.imp {e : List Expr} {t t' : TGs} (h : PGs X e t) (i : ∀ v σ H Q, t' v σ H Q → t v σ H Q) : PGs X e t' := ⟨fun pins s σ H v u Q I r q => h.run pins s σ H v u Q I r (i _ _ _ _ q)⟩
theorem s_name (c : Cok G P Φ fA ca Γ k Wx X) {i : Nat} {x : Str} {p : Pos} (h1 : Γ.N[i]? = some x) (h2 : stoB Γ.bk Γ.sc x = true) : PG X (.Name x p) (gName i) :=
  pg_name (by rw [c.N]; exact c.nd) (by rw [c.N]; exact h1) (c.loc h2) ((c.fn i x h1 h2).imp_right fun z => by rw [c.sc]; exact z)
variable (X) in
def rdGs (is : List Nat) : TGs := fun vs σ H Q => ∃ n ρ S ε ds, Ok X.K n ρ S H ∧ EnvR X.K n ρ S H ε σ ∧ RpL X.K n ρ S H ds vs ∧ ds.length = is.length ∧ ∀ σ', EnvR X.K n ρ S H (setVs ε is ds) σ' → Upd is σ σ' → Q σ' H
theorem s_names (c : Cok G P Φ fA ca Γ k Wx X) : ∀ {is : List Nat} {es : List Expr}, nmsB Γ is es = true → PGs X es (rdGs X is) ∧ (assignEach es X.env).length = is.length ∧ (assignEach es X.env).findIdx? (·.1) = none
  | [], [], _ => ⟨PGs.imp pgs_nil (by
      rintro v σ H Q ⟨n, ρ, S, ε, ds, ok, er, rl, el, kk⟩
      cases rl with
      | nil => exact ⟨rfl, kk σ er fun _ _ => rfl⟩
      | cons h t => cases el), rfl, rfl⟩
  | i :: is, .Name x p :: es, h => by
    have h : (decide (Γ.N[i]? = some x) && stoB Γ.bk Γ.sc x && nmsB Γ is es) = true := h
    obtain ⟨h1, h2, h3⟩ := and3 h
    obtain ⟨g1, g2, g3⟩ := s_names c h3
    refine ⟨PGs.imp (pgs_cons (s_name c (p := p) (of_decide_eq_true h1) h2) g1) ?_, by show (assignEach es X.env).length + 1 = is.length + 1; rw [g2], ?_⟩
    · rintro v σ H Q ⟨n, ρ, S, ε, ds, ok, er, rl, el, kk⟩
      cases rl with
      | nil => cases el
      | cons hh t =>
        refine ⟨_, _, rfl, ⟨n, ρ, S, _, _, ok, er.set hh, t, Nat.succ.inj el, fun σ' e' u' => kk σ' e' fun vs hv => ?_⟩⟩
        rw [u' vs fun j hj => hv j (List.mem_cons_of_mem _ hj), wipe_set (hv i List.mem_cons_self)]
    · show ((false, _) :: assignEach es X.env).findIdx? (·.1) = none
      rw [List.findIdx?_cons]
      show Option.map _ (List.findIdx? _ (assignEach es X.env)) = none
      rw [g3]; rfl
  | [], _ :: _, h => absurd h Bool.false_ne_true
  | _ :: _, [], h => absurd h Bool.false_ne_true
theorem s_tgt (c : Cok G P Φ fA ca Γ k Wx X) {t : Tgt} {e : Expr} (h : chkT Γ t e = true) : PG X e (rdG X t) := by
  unfold chkT at h
  split at h
  · rename_i i x p
    obtain ⟨h1, h2⟩ := and2 h
    refine PG.imp (s_name c (of_decide_eq_true h1) h2) ?_
    rintro v σ H Q ⟨n, ρ, S, ε, d, Q0, ok, er, r, w, kk⟩
    exact kk _ _ (er.set r) (fun vs hv => wipe_set (hv i List.mem_cons_self)) w
  · rename_i is es j p
    obtain ⟨g1, g2, g3⟩ := s_names c h
    refine PG.imp (pg_tup c.calm g1 g2 g3) ?_
    rintro v σ H Q ⟨n, ρ, S, ε, d, Q0, ok, er, r, w, kk⟩
    cases r with
    | tup hs z rl =>
      refine ⟨_, _, rfl, hs, by rw [← rl.length]; exact w.1, n, ρ, S, ε, _, ok, er, rl, w.1, fun σ' e' u' => kk _ _ e' u' w.2⟩
    | _ => exact False.elim w
  · cases h
/-! ### a comprehension -/
theorem ownP_ix {N : List Str} {own : List Nat} : True := trivial
theorem compL_cons {W : Sto → Prop} {step : D → Sto → (Option D → Sto → Prop) → Prop} {fin : List D → Sto → Prop} {x : D} {xs acc : List D} {S : Sto} : compL W step fin (x :: xs) acc S = (W S ∧ step x S fun o S' => match o with
    | none => compL W step fin xs acc S'
    | some d => compL W step fin xs (acc ++ [d]) S') := rfl
def tIfs (P : Prog) (Φ : FnSem) (ca : Nat → Value) (Wx : XK) (X : Cx) (ifs : IA) : TT := fun σ H Q => ∃ n ρ S ε Q0 E0, Ok X.K n ρ S H ∧ EnvR X.K n ρ S H ε σ ∧ wpTs P Φ ifs ε S Q0 E0 ∧ KT X.K n ρ S H Q0 Q ∧ XR ca X.K n ρ S H E0 Wx
theorem PTs.imp {es : List Expr} {t t' : TT} (h : PTs X es t) (i : ∀ σ H Q, t' σ H Q → t σ H Q) : PTs X es t' := ⟨fun pins s σ H Q I q => h.run pins s σ H Q I (i _ _ _ q)⟩
theorem s_comp {fl : Bool} {own : List Nat} {t : Tgt} {it : II} {ifs : IA} {elt : IE} {tg iter ex : Expr} {cs : List Expr} {scope : Scope} {pos : Pos}
    (c : Cok G P Φ fA ca Γ k Wx X) (h1 : blkC Γ.N Γ.sc scope (ownP Γ.N own) = true) (h2 : (ownP Γ.N own).map (·.2) = own) (h3 : ∀ i ∈ tgIds t, i ∈ own) (hf : ∀ env x, foldedSetIterable iter env x = pure x)
    (hi : PI X tg iter ((rdI P Φ ca Wx X) it)) (hg : ∀ X', Cok G P Φ fA ca (blkG Γ scope) k (fun _ _ _ => False) X' → PG X' tg (rdG X' t))
    (ht : ∀ X', Cok G P Φ fA ca (blkG Γ scope) k (fun _ _ _ => False) X' → PTs X' cs (tIfs P Φ ca (fun _ _ _ => False) X' ifs)) (he : ∀ X', Cok G P Φ fA ca (blkG Γ scope) k (fun _ _ _ => False) X' → PE X' ex (rdE P Φ ca (fun _ _ _ => False) X' elt)) :
    PE X (.ListComp ex [⟨tg, iter, cs, 0⟩] scope pos) (tLc ((rdI P Φ ca Wx X) it) (rdG X t) (tIfs P Φ ca (fun _ _ _ => False) X ifs) (rdE P Φ ca (fun _ _ _ => False) X elt) own) := by
  have bo : BlkOk X.N X.env.scope scope (ownP Γ.N own) := by rw [c.N, c.sc]; exact blkOk_by h1
  have key := pe_lc (pos := pos) (elt := ex) (ifs := cs) (g := rdG X t) (tt := tIfs P Φ ca (fun _ _ _ => False) X ifs) (te := rdE P Φ ca (fun _ _ _ => False) X elt) c.calm (by rw [c.N]; exact c.nd) hi bo (fun s H C cl fp => hg _ (c.blk s H scope C cl fp)) (fun s H C cl fp => ht _ (c.blk s H scope C cl fp)) (fun s H C cl fp => he _ (c.blk s H scope C cl fp)) (hf X.env)
  rw [h2] at key
  exact key
theorem lc_te {fl : Bool} {own : List Nat} {t : Tgt} {it : II} {ifs : IA} {elt : IE} (h3 : ∀ i ∈ tgIds t, i ∈ own) : ∀ σ H Q, (rdE P Φ ca Wx X) (.comp fl own t it ifs elt) σ H Q →
    tLc ((rdI P Φ ca Wx X) it) (rdG X t) (tIfs P Φ ca (fun _ _ _ => False) X ifs) (rdE P Φ ca (fun _ _ _ => False) X elt) own σ H Q := by
  rintro σ H Q ⟨n, ρ, S, ε, Q0, E0, ok, er, w, kd, xr⟩
  refine ⟨n, ρ, S, ε, _, E0, ok, er, w, fun w S1 n1 ρ1 H1 J le1 ok1 wk hz cl => ?_, xr⟩
  intro d hd
  have er1 := er.mono le1
  have kd1 := kd.mono le1
  obtain ⟨items, src⟩ := w
  generalize hst : (fun x S2 (kk : Option D → Sto → Prop) => asgT t x (wipeV ε own) fun ε1 => wpTs P Φ ifs ε1 S2 (fun b S3 => if b = true then wpE P Φ elt ε1 S3 (fun d S4 => kk (some d) S4) (fun _ _ _ => False) else kk none S3) fun _ _ _ => False) = step at cl
  have wk : WkR X.K n1 ρ1 S1 H1 ⟨items, src⟩ J := wk
  have cl : compL (Wk.still ⟨items, src⟩) step (fun acc S2 => newL fl acc S2 Q0) items [] S1 := cl
  refine ⟨fun i m H2 => m = items.length - i ∧ i ≤ items.length ∧ ∃ n2 ρ2 S2 acc vs, Bl X.K n1 ρ1 S1 H1 d n2 ρ2 S2 H2 ∧ Ok X.K n2 ρ2 S2 H2 ∧ H2 d = some (.lst vs) ∧ RpL X.K n2 ρ2 S2 H2 acc vs ∧ acc.length ≤ i ∧
    compL (Wk.still ⟨items, src⟩) step (fun acc S2 => newL fl acc S2 Q0) (items.drop i) acc S2, ⟨items.length, by simp, Nat.zero_le _, n1, _, S1, [], [], Bl.start ok1 hd, ok1.push hd, upd_same, .nil, Nat.le_refl _, cl⟩, ?_⟩
  rintro i m H2 ⟨hm, hi, n2, ρ2, S2, acc, vs, bl, ok2, hv, ra, hl, cl⟩
  have bd : ∀ ws : List V, Bld (.lst ws) := fun ws => ⟨fun _ z => (by cases z), fun _ _ z => (by cases z)⟩
  obtain ⟨u0, l0⟩ := bl.l0
  have lb : Le0 X.K n1 ρ1 S1 H1 n2 ρ2 S2 H2 := (Le0.push hd).trans l0
  by_cases hlt : i < items.length
  · rw [List.drop_eq_getElem_cons hlt] at cl
    obtain ⟨st, cl⟩ := cl
    obtain ⟨hgo, hy⟩ := (wk n2 ρ2 S2 H2 lb ok2 st i).1 hlt
    refine .inr ⟨hgo, fun H' => items.length - (i + 1) = items.length - (i + 1) ∧ i + 1 ≤ items.length ∧ ∃ n2 ρ2 S2 acc vs, Bl X.K n1 ρ1 S1 H1 d n2 ρ2 S2 H' ∧ Ok X.K n2 ρ2 S2 H' ∧ H' d = some (.lst vs) ∧ RpL X.K n2 ρ2 S2 H' acc vs ∧ acc.length ≤ i + 1 ∧
      compL (Wk.still ⟨items, src⟩) step (fun acc S2 => newL fl acc S2 Q0) (items.drop (i + 1)) acc S2, fun H' h => ⟨_, by omega, h⟩, fun x H' hyy => ?_⟩
    obtain ⟨le3, ok3, dd, ed, rx⟩ := hy x H' hyy
    have ed : items[i]? = some dd := ed
    rw [List.getElem?_eq_getElem hlt] at ed
    cases ed
    subst hst
    refine ⟨n2, ρ2, S2, wipeV ε own, _, _, ok3, ((er1.mono0 lb).mono le3).wipe own, rx, cl, fun ε' σ' e' u' wt => ⟨by rw [u' own h3, wipe_wipe], ?_⟩⟩
    refine ⟨n2, ρ2, S2, ε', _, fun _ _ _ => False, ok3, e', wt, fun b S4 n4 ρ4 H4 le4 ok4 q => ?_, fun _ _ _ _ _ _ _ z => z.elim⟩
    cases b with
    | true =>
      refine ⟨n4, ρ4, S4, ε', _, fun _ _ _ => False, ok4, e'.mono le4, q, fun y S5 n5 ρ5 H5 v le5 ok5 ry q => ?_, fun _ _ _ _ _ _ _ z => z.elim⟩
      have le := le3.trans (le4.trans le5)
      have hv5 : H5 d = some (.lst vs) := (le.gs d bl.mem).trans hv
      have b5 := bl.step le
      have hlen := ra.length
      refine ⟨vs, hv5, by show vs.length < 16777216; have : items.length ≤ 16777216 := hz; omega, rfl, hlt, n5, ρ5, S5, acc ++ [y], vs ++ [v], Bl.put ok1 hd b5 hv5 (bd _), ok5.put b5.mem hv5 (bd _), upd_same, ?_, by rw [List.length_append]; exact Nat.succ_le_succ hl, q⟩
      have lp : Le0 X.K n5 ρ5 S5 H5 n5 ρ5 S5 (upd H5 d (.lst (vs ++ [v]))) := Le0.put b5.mem hv5 (bd _)
      exact ((ra.mono le).mono0 lp).append (.cons (ry.mono0 lp) .nil)
    | false =>
      have le := le3.trans le4
      have hv4 : H4 d = some (.lst vs) := (le.gs d bl.mem).trans hv
      exact ⟨rfl, hlt, n4, ρ4, S4, acc, vs, bl.step le, ok4, hv4, ra.mono le, Nat.le_succ_of_le hl, q⟩
  · have hie : i = items.length := Nat.le_antisymm hi (Nat.le_of_not_lt hlt)
    rw [List.drop_eq_nil_of_le (Nat.le_of_not_lt hlt)] at cl
    obtain ⟨st, cl⟩ := cl
    refine .inl ⟨(wk n2 ρ2 S2 H2 lb ok2 st i).2 (Nat.le_of_not_lt hlt), ?_⟩
    obtain ⟨le, ok', p⟩ := Bl.done ok1 hd bl hv (bd _) ok2
    have := newL_ok ok' (kd1.mono le) (ra.mono0 p) (by have : items.length ≤ SZ := hz; omega) cl d clr_same
    rw [clr_upd hv] at this
    exact this
end
end TH
namespace TH
open PySem PySem.Spec PyProof.Rows L2
/-! ### a dict is put together -/
theorem putK_ne {a k : Key} {x v : V} {r : List (Key × V)} (h : a ≠ k) : putK ((a, x) :: r) k v = (a, x) :: putK r k v := by
  unfold putK
  have e : (((a, x) :: r).any fun kv => decide (kv.1 = k)) = (r.any fun kv => decide (kv.1 = k)) := by
    rw [List.any_cons]
    show (decide (a = k) || _) = _
    rw [decide_eq_false h]; rfl
  rw [e]
  split
  · rw [List.map_cons]
    show (if a = k then _ else _) :: _ = _
    rw [if_neg h]
  · rfl
theorem putK_eq {k : Key} {x v : V} {ks : List Key} {vs : List V} (h : k ∉ ks) : putK ((k, x) :: ks.zip vs) k v = (k, v) :: ks.zip vs := by
  unfold putK
  have e : (((k, x) :: ks.zip vs).any fun kv => decide (kv.1 = k)) = true := by
    rw [List.any_cons]
    show (decide (k = k) || _) = true
    rw [decide_eq_true rfl]; rfl
  rw [if_pos e, List.map_cons]
  show (if k = k then (k, v) else _) :: _ = _
  rw [if_pos rfl]
  congr 1
  have : ∀ (ks : List Key) (vs : List V), k ∉ ks → (ks.zip vs).map (fun kv => if kv.1 = k then (kv.1, v) else kv) = ks.zip vs := by
    intro ks
    induction ks with
    | nil => intros; rfl
    | cons a ks ih =>
      intro vs h
      cases vs with
      | nil => rfl
      | cons w vs =>
        show (if a = k then (a, v) else (a, w)) :: (ks.zip vs).map _ = (a, w) :: ks.zip vs
        rw [if_neg (fun (z : a = k) => h (z ▸ List.mem_cons_self)), ih vs fun z => h (List.mem_cons_of_mem _ z)]
  exact this ks vs h
theorem put_zip {K : PySem.W.Frag} {n : Nat} {ρ : Rho} {S : Sto} {H : Hp} {k : Key} {d : D} {v : V} (rk : Rp K n ρ S H (kD k) (kV k)) (rd : Rp K n ρ S H d v) : ∀ {ks : List Key} {ds : List D} {vs : List V}, ks.Nodup → ks.length = ds.length → RpL K n ρ S H (ks.map kD) (ks.map kV) → RpL K n ρ S H ds vs →
    ∃ (ks' : List Key) (ds' : List D) (vs' : List V), ks'.Nodup ∧ ks'.length = ds'.length ∧ RpL K n ρ S H (ks'.map kD) (ks'.map kV) ∧ RpL K n ρ S H ds' vs' ∧ putKD (kD k) d ((ks.map kD).zip ds) = (ks'.map kD).zip ds' ∧ putK (ks.zip vs) k v = ks'.zip vs' ∧ ks'.length ≤ ks.length + 1 ∧ ∀ j ∈ ks', j ∈ ks ∨ j = k
  | [], [], _, _, _, _, .nil => ⟨[k], [d], [v], by simp, rfl, .cons rk .nil, .cons rd .nil, rfl, rfl, Nat.le_refl _, fun j h => .inr (by simpa using h)⟩
  | a :: ks, [], _, _, el, _, _ => by cases el
  | a :: ks, e :: ds, _, nd, el, .cons rk1 rks, .cons (v := w) (vs := vs) r1 rs => by
    rw [List.nodup_cons] at nd
    by_cases h : a = k
    · subst h
      refine ⟨a :: ks, d :: ds, v :: vs, List.nodup_cons.mpr nd, el, .cons rk1 rks, .cons rd rs, ?_, putK_eq nd.1, Nat.le_succ _, fun j h => .inl h⟩
      show (if kD a = kD a then _ else _) = _
      rw [if_pos rfl]; rfl
    · obtain ⟨ks', ds', vs', a1, a2, a3, a4, a5, a6, a7, a8⟩ := put_zip rk rd nd.2 (Nat.succ.inj el) rks rs
      refine ⟨a :: ks', e :: ds', w :: vs', List.nodup_cons.mpr ⟨fun z => (a8 a z).elim nd.1 h, a1⟩, by show ks'.length + 1 = ds'.length + 1; rw [a2], .cons rk1 a3, .cons r1 a4, ?_, ?_, Nat.succ_le_succ a7, fun j hj => ?_⟩
      · show (if kD a = kD k then _ else (kD a, e) :: putKD (kD k) d ((ks.map kD).zip ds)) = _
        rw [if_neg fun z => h (kD_inj z), a5]; rfl
      · show putK ((a, w) :: ks.zip vs) k v = _
        rw [putK_ne h, a6]; rfl
      · rcases List.mem_cons.mp hj with rfl | hj
        · exact .inl List.mem_cons_self
        · exact (a8 j hj).imp_left (List.mem_cons_of_mem _)
theorem yes_ite {p q : Prop} (h : p) : if true = true then p else q := h
def tupP (p : D × D) : D := .tup [p.1, p.2]
theorem pairsOf_map : ∀ kvs : List (D × D), pairsOf (kvs.map tupP) = some kvs
  | [] => rfl
  | (a, b) :: r => by
    show (pairsOf (r.map tupP)).map ((a, b) :: ·) = _
    rw [pairsOf_map r]; rfl
theorem mkDic_snoc (kvs : List (D × D)) (a b : D) : mkDic (kvs ++ [(a, b)]) = putKD a b (mkDic kvs) := by
  unfold mkDic
  rw [List.foldl_append]; rfl
section
variable {G : Sg} {P : Prog} {Φ : FnSem} {fA : Nat → Addr} {ca : Nat → Value} {Γ : Gm} {k : Nat} {Wx : XK} {X : Cx}
theorem s_dcomp {own : List Nat} {t : Tgt} {it : II} {ke ve : IE} {tg iter kx vx : Expr} {scope : Scope} {pos : Pos}
    (c : Cok G P Φ fA ca Γ k Wx X) (h1 : blkC Γ.N Γ.sc scope (ownP Γ.N own) = true) (h2 : (ownP Γ.N own).map (·.2) = own) (hf : ∀ env x, foldedSetIterable iter env x = pure x)
    (hi : PI X tg iter ((rdI P Φ ca Wx X) it)) (hg : ∀ X', Cok G P Φ fA ca (blkG Γ scope) k (fun _ _ _ => False) X' → PG X' tg (rdG X' t))
    (hk : ∀ X', Cok G P Φ fA ca (blkG Γ scope) k (fun _ _ _ => False) X' → PE X' kx (rdE P Φ ca (fun _ _ _ => False) X' ke)) (he : ∀ X', Cok G P Φ fA ca (blkG Γ scope) k (fun _ _ _ => False) X' → PE X' vx (rdE P Φ ca (fun _ _ _ => False) X' ve)) :
    PE X (.DictComp kx vx [⟨tg, iter, [], 0⟩] scope pos) (tDc ((rdI P Φ ca Wx X) it) (rdG X t) tYes (rdE P Φ ca (fun _ _ _ => False) X ke) (rdE P Φ ca (fun _ _ _ => False) X ve) own) := by
  have bo : BlkOk X.N X.env.scope scope (ownP Γ.N own) := by rw [c.N, c.sc]; exact blkOk_by h1
  have key := pe_dc (pos := pos) (ifs := []) (g := rdG X t) (tt := tYes) (tk := rdE P Φ ca (fun _ _ _ => False) X ke) (tv := rdE P Φ ca (fun _ _ _ => False) X ve) c.calm (by rw [c.N]; exact c.nd) hi bo (fun s H C cl fp => hg _ (c.blk s H scope C cl fp)) (fun s H C cl fp => pts_nil)
    (fun s H C cl fp => hk _ (c.blk s H scope C cl fp)) (fun s H C cl fp => he _ (c.blk s H scope C cl fp)) (hf X.env)
  rw [h2] at key
  exact key
theorem dc_te {own : List Nat} {t : Tgt} {it : II} {ke ve : IE} (h3 : ∀ i ∈ tgIds t, i ∈ own) : ∀ σ H Q, (rdE P Φ ca Wx X) (.dcomp false own t it ke ve) σ H Q →
    tDc ((rdI P Φ ca Wx X) it) (rdG X t) tYes (rdE P Φ ca (fun _ _ _ => False) X ke) (rdE P Φ ca (fun _ _ _ => False) X ve) own σ H Q := by
  rintro σ H Q ⟨n, ρ, S, ε, Q0, E0, ok, er, w, kd, xr⟩
  refine ⟨n, ρ, S, ε, _, E0, ok, er, w, fun w S1 n1 ρ1 H1 J le1 ok1 wk hz cl => ?_, xr⟩
  intro d hd
  have er1 := er.mono le1
  have kd1 := kd.mono le1
  obtain ⟨items, src⟩ := w
  generalize hst : (fun x S2 (kk : Option D → Sto → Prop) => asgT t x (wipeV ε own) fun ε1 => wpE P Φ ke ε1 S2 (fun a S3 => a.kS = true ∧ wpE P Φ ve ε1 S3 (fun b S4 => kk (some (.tup [a, b])) S4) fun _ _ _ => False) fun _ _ _ => False) = step at cl
  generalize hfin : (fun (acc : List D) S2 => match pairsOf acc with
          | some kvs => newD false (mkDic kvs) S2 Q0
          | none => False) = fin at cl
  have wk : WkR X.K n1 ρ1 S1 H1 ⟨items, src⟩ J := wk
  have cl : compL (Wk.still ⟨items, src⟩) step fin items [] S1 := cl
  refine ⟨fun i m H2 => m = items.length - i ∧ i ≤ items.length ∧ ∃ (n2 : Nat) (ρ2 : Rho) (S2 : Sto) (kvs : List (D × D)) (ks : List Key) (ds : List D) (vs : List V), Bl X.K n1 ρ1 S1 H1 d n2 ρ2 S2 H2 ∧ Ok X.K n2 ρ2 S2 H2 ∧ H2 d = some (.dK (ks.zip vs)) ∧ ks.Nodup ∧ ks.length = ds.length ∧
    RpL X.K n2 ρ2 S2 H2 (ks.map kD) (ks.map kV) ∧ RpL X.K n2 ρ2 S2 H2 ds vs ∧ mkDic kvs = (ks.map kD).zip ds ∧ ks.length ≤ i ∧
    compL (Wk.still ⟨items, src⟩) step fin (items.drop i) (kvs.map tupP) S2, ⟨items.length, by simp, Nat.zero_le _, n1, _, S1, [], [], [], [], Bl.start ok1 hd, ok1.push hd, upd_same, List.nodup_nil, rfl, .nil, .nil, rfl, Nat.le_refl _, cl⟩, ?_⟩
  rintro i m H2 ⟨hm, hi, n2, ρ2, S2, kvs, ks, ds, vs, bl, ok2, hv, nd, el, rks, rds, hmk, hl, cl⟩
  have bd : ∀ ws : List (Key × V), Bld (.dK ws) := fun ws => ⟨fun _ z => (by cases z), fun _ _ z => (by cases z)⟩
  obtain ⟨u0, l0⟩ := bl.l0
  have lb : Le0 X.K n1 ρ1 S1 H1 n2 ρ2 S2 H2 := (Le0.push hd).trans l0
  by_cases hlt : i < items.length
  · rw [List.drop_eq_getElem_cons hlt] at cl
    obtain ⟨st, cl⟩ := cl
    obtain ⟨hgo, hy⟩ := (wk n2 ρ2 S2 H2 lb ok2 st i).1 hlt
    refine .inr ⟨hgo, fun H' => items.length - (i + 1) = items.length - (i + 1) ∧ i + 1 ≤ items.length ∧ ∃ (n2 : Nat) (ρ2 : Rho) (S2 : Sto) (kvs : List (D × D)) (ks : List Key) (ds : List D) (vs : List V), Bl X.K n1 ρ1 S1 H1 d n2 ρ2 S2 H' ∧ Ok X.K n2 ρ2 S2 H' ∧ H' d = some (.dK (ks.zip vs)) ∧ ks.Nodup ∧ ks.length = ds.length ∧
      RpL X.K n2 ρ2 S2 H' (ks.map kD) (ks.map kV) ∧ RpL X.K n2 ρ2 S2 H' ds vs ∧ mkDic kvs = (ks.map kD).zip ds ∧ ks.length ≤ i + 1 ∧
      compL (Wk.still ⟨items, src⟩) step fin (items.drop (i + 1)) (kvs.map tupP) S2, fun H' h => ⟨_, by omega, h⟩, fun x H' hyy => ?_⟩
    obtain ⟨le3, ok3, dd, ed, rx⟩ := hy x H' hyy
    have ed : items[i]? = some dd := ed
    rw [List.getElem?_eq_getElem hlt] at ed
    cases ed
    subst hst
    refine ⟨n2, ρ2, S2, wipeV ε own, _, _, ok3, ((er1.mono0 lb).mono le3).wipe own, rx, cl, fun ε' σ' e' u' wt => ⟨by rw [u' own h3, wipe_wipe], ?_⟩⟩
    refine (show rdE P Φ ca (fun _ _ _ => False) X ke σ' H' _ from ?_)
    refine ⟨n2, ρ2, S2, ε', _, fun _ _ _ => False, ok3, e', wt, fun a S4 n4 ρ4 H4 va le4 ok4 ra q => ?_, fun _ _ _ _ _ _ _ z => z.elim⟩
    obtain ⟨hks, q⟩ := q
    refine ⟨n4, ρ4, S4, ε', _, fun _ _ _ => False, ok4, e'.mono le4, q, fun y S5 n5 ρ5 H5 v le5 ok5 ry q => ?_, fun _ _ _ _ _ _ _ z => z.elim⟩
    obtain ⟨kk, rfl, rfl⟩ := kS_key hks ra
    have le := le3.trans (le4.trans le5)
    have hv5 : H5 d = some (.dK (ks.zip vs)) := (le.gs d bl.mem).trans hv
    have b5 := bl.step le
    obtain ⟨ks', ds', vs', a1, a2, a3, a4, a5, a6, a7, a8⟩ := put_zip (ra.mono le5) ry nd el (rks.mono le) (rds.mono le)
    refine ⟨ks.zip vs, kk, rfl, hv5, ?_, rfl, hlt, n5, ρ5, S5, kvs ++ [(kD kk, y)], ks', ds', vs', Bl.put ok1 hd b5 hv5 (bd _), ok5.put b5.mem hv5 (bd _), by rw [upd_same, a6], a1, a2, ?_, ?_, ?_, by omega, ?_⟩
    · have h1 : (ks.zip vs).length ≤ ks.length := by rw [List.length_zip]; exact Nat.min_le_left _ _
      have h2 : items.length ≤ 16777216 := hz
      show (ks.zip vs).length < 16777216
      omega
    · exact a3.mono0 (Le0.put b5.mem hv5 (bd _))
    · exact a4.mono0 (Le0.put b5.mem hv5 (bd _))
    · rw [mkDic_snoc, hmk, a5]
    · rw [List.map_append]
      exact q
  · have hie : i = items.length := Nat.le_antisymm hi (Nat.le_of_not_lt hlt)
    rw [List.drop_eq_nil_of_le (Nat.le_of_not_lt hlt)] at cl
    obtain ⟨st, cl⟩ := cl
    refine .inl ⟨(wk n2 ρ2 S2 H2 lb ok2 st i).2 (Nat.le_of_not_lt hlt), ?_⟩
    obtain ⟨le, ok', p⟩ := Bl.done ok1 hd bl hv (bd _) ok2
    subst hfin
    have cl : (match pairsOf (kvs.map tupP) with
          | some kvs => newD false (mkDic kvs) S2 Q0
          | none => False) := cl
    rw [pairsOf_map] at cl
    have cl : Q0 (.idic (mkDic kvs)) S2 := cl
    rw [hmk] at cl
    have hu := clr_upd hv
    have same : Same (clr H2 d) H2 := by
      have s1 : Same (clr H2 d) (upd (clr H2 d) d (.dK (ks.zip vs))) := same_upd clr_same
      rw [hu] at s1; exact s1
    refine kd1 _ S2 n2 (ρ2.pop ρ1.gh) H2 (.ref d) (le.trans (Le.same ok' same)) (ok'.same same) ?_ cl
    refine .idic (.inl hv) (by have : items.length ≤ SZ := hz; omega) el nd (fun t => ?_) ((rks.mono0 p).mono0 (Le0.same same)) ((rds.mono0 p).mono0 (Le0.same same))
    obtain ⟨u1, hu1⟩ := Trk.some_of ok' t
    rw [clr_same] at hu1; cases hu1
end
end TH
namespace TH
open PySem PySem.Spec PyProof.Rows L2
/-! ### two clauses -/
section
variable {G : Sg} {P : Prog} {Φ : FnSem} {fA : Nat → Addr} {ca : Nat → Value} {Γ : Gm} {k : Nat} {Wx : XK} {X : Cx}
theorem s_comp2 {own own1 : List Nat} {t t1 : Tgt} {it it1 : II} {ifs ifs1 : IA} {elt : IE} {tg iter tg1 iter1 ex : Expr} {cs cs1 : List Expr} {scope : Scope} {pos : Pos}
    (c : Cok G P Φ fA ca Γ k Wx X) (h1 : blkC Γ.N Γ.sc scope (ownP Γ.N own) = true) (h2 : (ownP Γ.N own).map (·.2) = own) (hv : ∀ i ∈ own1, i ∈ own) (hf : ∀ env x, foldedSetIterable iter env x = pure x) (hf1 : ∀ env x, foldedSetIterable iter1 env x = pure x)
    (hi : PI X tg iter ((rdI P Φ ca Wx X) it)) (hg : ∀ X', Cok G P Φ fA ca (blkG Γ scope) k (fun _ _ _ => False) X' → PG X' tg (rdG X' t))
    (ht : ∀ X', Cok G P Φ fA ca (blkG Γ scope) k (fun _ _ _ => False) X' → PTs X' cs (tIfs P Φ ca (fun _ _ _ => False) X' ifs))
    (hi1 : ∀ X', Cok G P Φ fA ca (blkG Γ scope) k (fun _ _ _ => False) X' → PI X' tg1 iter1 (rdI P Φ ca (fun _ _ _ => False) X' it1)) (hg1 : ∀ X', Cok G P Φ fA ca (blkG Γ scope) k (fun _ _ _ => False) X' → PG X' tg1 (rdG X' t1))
    (ht1 : ∀ X', Cok G P Φ fA ca (blkG Γ scope) k (fun _ _ _ => False) X' → PTs X' cs1 (tIfs P Φ ca (fun _ _ _ => False) X' ifs1))
    (he : ∀ X', Cok G P Φ fA ca (blkG Γ scope) k (fun _ _ _ => False) X' → PE X' ex (rdE P Φ ca (fun _ _ _ => False) X' elt)) :
    PE X (.ListComp ex [⟨tg, iter, cs, 0⟩, ⟨tg1, iter1, cs1, 0⟩] scope pos) (tLc2 ((rdI P Φ ca Wx X) it) (rdG X t) (tIfs P Φ ca (fun _ _ _ => False) X ifs) (rdI P Φ ca (fun _ _ _ => False) X it1) (rdG X t1) (tIfs P Φ ca (fun _ _ _ => False) X ifs1) (rdE P Φ ca (fun _ _ _ => False) X elt) own own1) := by
  have bo : BlkOk X.N X.env.scope scope (ownP Γ.N own) := by rw [c.N, c.sc]; exact blkOk_by h1
  have key := pe_lc2 (pos := pos) (elt := ex) (ifs := cs) (ifs1 := cs1) (vs1 := own1) (g := rdG X t) (tt := tIfs P Φ ca (fun _ _ _ => False) X ifs) (wi1 := rdI P Φ ca (fun _ _ _ => False) X it1) (g1 := rdG X t1) (tt1 := tIfs P Φ ca (fun _ _ _ => False) X ifs1) (te := rdE P Φ ca (fun _ _ _ => False) X elt) c.calm (by rw [c.N]; exact c.nd) hi bo (by rw [h2]; exact hv)
    (fun s H C cl fp => hg _ (c.blk s H scope C cl fp)) (fun s H C cl fp => ht _ (c.blk s H scope C cl fp)) (fun s H C cl fp => hi1 _ (c.blk s H scope C cl fp)) (fun s H C cl fp => hg1 _ (c.blk s H scope C cl fp)) (fun s H C cl fp => ht1 _ (c.blk s H scope C cl fp)) (fun s H C cl fp => he _ (c.blk s H scope C cl fp)) (hf X.env) hf1
  rw [h2] at key
  exact key
/-- what is being built, so far -/
def BI (K : PySem.W.Frag) (n : Nat) (ρ : Rho) (S : Sto) (H : Hp) (d : Addr) (acc : List D) (n' : Nat) (ρ' : Rho) (S' : Sto) (H' : Hp) : Prop :=
  Bl K n ρ S H d n' ρ' S' H' ∧ Ok K n' ρ' S' H' ∧ ∃ vs, H' d = some (.lst vs) ∧ RpL K n' ρ' S' H' acc vs ∧ acc.length ≤ SZ
theorem bld_lst (ws : List V) : Bld (.lst ws) := ⟨fun _ z => (by cases z), fun _ _ z => (by cases z)⟩
theorem BI.step {K : PySem.W.Frag} {n n' n'' : Nat} {ρ ρ' ρ'' : Rho} {S S' S'' : Sto} {H H' H'' : Hp} {d : Addr} {acc : List D} (b : BI K n ρ S H d acc n' ρ' S' H') (l : Le K n' ρ' S' H' n'' ρ'' S'' H'') (ok : Ok K n'' ρ'' S'' H'') : BI K n ρ S H d acc n'' ρ'' S'' H'' := by
  obtain ⟨b1, b2, vs, b3, b4, b5⟩ := b
  exact ⟨b1.step l, ok, vs, (l.gs d b1.mem).trans b3, b4.mono l, b5⟩
theorem BI.put {K : PySem.W.Frag} {n n' : Nat} {ρ ρ' : Rho} {S S' : Sto} {H H' : Hp} {d : Addr} {acc : List D} (ok1 : Ok K n ρ S H) (hd : H d = none) (b : BI K n ρ S H d acc n' ρ' S' H') {y : D} {v : V} (r : Rp K n' ρ' S' H' y v) (hl : acc.length < SZ) :
    ∃ vs, H' d = some (.lst vs) ∧ vs.length < SZ ∧ Le0 K n' ρ' S' H' n' ρ' S' (upd H' d (.lst (vs ++ [v]))) ∧ BI K n ρ S H d (acc ++ [y]) n' ρ' S' (upd H' d (.lst (vs ++ [v]))) := by
  obtain ⟨b1, b2, vs, b3, b4, b5⟩ := b
  have lp : Le0 K n' ρ' S' H' n' ρ' S' (upd H' d (.lst (vs ++ [v]))) := Le0.put b1.mem b3 (bld_lst _)
  refine ⟨vs, b3, by rw [← b4.length]; exact hl, lp, Bl.put ok1 hd b1 b3 (bld_lst _), b2.put b1.mem b3 (bld_lst _), _, upd_same, (b4.mono0 lp).append (.cons (r.mono0 lp) .nil), ?_⟩
  rw [List.length_append]; exact hl
theorem lc2_te {fl : Bool} {own own1 : List Nat} {t t1 : Tgt} {it it1 : II} {ifs ifs1 : IA} {elt : IE} (h3 : ∀ i ∈ tgIds t, i ∈ own) (h31 : ∀ i ∈ tgIds t1, i ∈ own1) : ∀ σ H Q, (rdE P Φ ca Wx X) (.comp2 fl own t it ifs own1 t1 it1 ifs1 elt) σ H Q →
    tLc2 ((rdI P Φ ca Wx X) it) (rdG X t) (tIfs P Φ ca (fun _ _ _ => False) X ifs) (rdI P Φ ca (fun _ _ _ => False) X it1) (rdG X t1) (tIfs P Φ ca (fun _ _ _ => False) X ifs1) (rdE P Φ ca (fun _ _ _ => False) X elt) own own1 σ H Q := by
  rintro σ H Q ⟨n, ρ, S, ε, Q0, E0, ok, er, w, kd, xr⟩
  refine ⟨n, ρ, S, ε, _, E0, ok, er, w, fun w S1 n1 ρ1 H1 J le1 ok1 wk hz cl => ?_, xr⟩
  intro d hd
  have er1 := er.mono le1
  have kd1 := kd.mono le1
  obtain ⟨items, src⟩ := w
  generalize hst : (fun x acc S2 (k : List D → Sto → Prop) => asgT t x (wipeV ε own) fun ε1 => wpTs P Φ ifs ε1 S2 (fun b S3 => if b = true then
          wpI P Φ it1 ε1 S3 (fun w1 S4 => compA w1.still (fun y acc1 S5 kk => asgT t1 y (wipeV ε1 own1) fun ε2 => wpTs P Φ ifs1 ε2 S5 (fun b S6 => if b = true then acc1.length < SZ ∧ wpE P Φ elt ε2 S6 (fun d S7 => kk (acc1 ++ [d]) S7) (fun _ _ _ => False) else kk acc1 S6) fun _ _ _ => False)
            k w1.items acc S4) (fun _ _ _ => False)
        else k acc S3) fun _ _ _ => False) = step at cl
  have wk : WkR X.K n1 ρ1 S1 H1 ⟨items, src⟩ J := wk
  have cl : compA (Wk.still ⟨items, src⟩) step (fun acc S2 => newL fl acc S2 Q0) items [] S1 := cl
  refine ⟨fun i m H2 => m = items.length - i ∧ i ≤ items.length ∧ ∃ n2 ρ2 S2 acc, BI X.K n1 ρ1 S1 H1 d acc n2 ρ2 S2 H2 ∧
    compA (Wk.still ⟨items, src⟩) step (fun acc S2 => newL fl acc S2 Q0) (items.drop i) acc S2, ⟨items.length, by simp, Nat.zero_le _, n1, _, S1, [], ⟨Bl.start ok1 hd, ok1.push hd, [], upd_same, .nil, Nat.zero_le _⟩, cl⟩, ?_⟩
  rintro i m H2 ⟨hm, hi, n2, ρ2, S2, acc, bi, cl⟩
  obtain ⟨u0, l0⟩ := bi.1.l0
  have ok2 := bi.2.1
  have lb : Le0 X.K n1 ρ1 S1 H1 n2 ρ2 S2 H2 := (Le0.push hd).trans l0
  by_cases hlt : i < items.length
  · rw [List.drop_eq_getElem_cons hlt] at cl
    obtain ⟨st, cl⟩ := cl
    obtain ⟨hgo, hy⟩ := (wk n2 ρ2 S2 H2 lb ok2 st i).1 hlt
    refine .inr ⟨hgo, fun H' => items.length - (i + 1) = items.length - (i + 1) ∧ i + 1 ≤ items.length ∧ ∃ n2 ρ2 S2 acc, BI X.K n1 ρ1 S1 H1 d acc n2 ρ2 S2 H' ∧
      compA (Wk.still ⟨items, src⟩) step (fun acc S2 => newL fl acc S2 Q0) (items.drop (i + 1)) acc S2, fun H' h => ⟨_, by omega, h⟩, fun x H' hyy => ?_⟩
    obtain ⟨le3, ok3, dd, ed, rx⟩ := hy x H' hyy
    have ed : items[i]? = some dd := ed
    rw [List.getElem?_eq_getElem hlt] at ed
    cases ed
    have bi3 := bi.step le3 ok3
    generalize hfin : compA (Wk.still ⟨items, src⟩) step (fun acc S2 => newL fl acc S2 Q0) (items.drop (i + 1)) = fin at cl
    have cl : step items[i] acc S2 fin := cl
    subst hst
    refine ⟨n2, ρ2, S2, wipeV ε own, _, _, ok3, ((er1.mono0 lb).mono le3).wipe own, rx, cl, fun ε' σ' e' u' wt => ⟨by rw [u' own h3, wipe_wipe], ?_⟩⟩
    refine ⟨n2, ρ2, S2, ε', _, fun _ _ _ => False, ok3, e', wt, fun b S4 n4 ρ4 H4 le4 ok4 q => ?_, fun _ _ _ _ _ _ _ z => z.elim⟩
    have bi4 := bi3.step le4 ok4
    cases b with
    | false => exact ⟨rfl, hlt, n4, ρ4, S4, acc, bi4, q⟩
    | true =>
      refine ⟨n4, ρ4, S4, ε', _, fun _ _ _ => False, ok4, e'.mono le4, q, fun w1 S5 n5 ρ5 H5 J1 le5 ok5 wk1 hz1 cl1 => ?_, fun _ _ _ _ _ _ _ z => z.elim⟩
      have bi5 := bi4.step le5 ok5
      have er5 := (e'.mono le4).mono le5
      obtain ⟨items1, src1⟩ := w1
      generalize hst1 : (fun y acc1 S5 (kk : List D → Sto → Prop) => asgT t1 y (wipeV ε' own1) fun ε2 => wpTs P Φ ifs1 ε2 S5 (fun b S6 => if b = true then acc1.length < SZ ∧ wpE P Φ elt ε2 S6 (fun d S7 => kk (acc1 ++ [d]) S7) (fun _ _ _ => False) else kk acc1 S6) fun _ _ _ => False) = step1 at cl1
      have wk1 : WkR X.K n5 ρ5 S5 H5 ⟨items1, src1⟩ J1 := wk1
      have cl1 : compA (Wk.still ⟨items1, src1⟩) step1 fin items1 acc S5 := cl1
      refine ⟨fun j k H6 => k = items1.length - j ∧ j ≤ items1.length ∧ ∃ n6 ρ6 S6 acc, BI X.K n1 ρ1 S1 H1 d acc n6 ρ6 S6 H6 ∧ Le0 X.K n5 ρ5 S5 H5 n6 ρ6 S6 H6 ∧ compA (Wk.still ⟨items1, src1⟩) step1 fin (items1.drop j) acc S6,
        ⟨items1.length, by simp, Nat.zero_le _, n5, ρ5, S5, acc, bi5, Le0.refl, cl1⟩, ?_⟩
      rintro j k H6 ⟨hk, hj, n6, ρ6, S6, acc6, bi6, l6, cl6⟩
      have ok6 := bi6.2.1
      by_cases hlt1 : j < items1.length
      · rw [List.drop_eq_getElem_cons hlt1] at cl6
        obtain ⟨st1, cl6⟩ := cl6
        obtain ⟨hgo1, hy1⟩ := (wk1 n6 ρ6 S6 H6 l6 ok6 st1 j).1 hlt1
        refine .inr ⟨hgo1, fun H' => items1.length - (j + 1) = items1.length - (j + 1) ∧ j + 1 ≤ items1.length ∧ ∃ n6 ρ6 S6 acc, BI X.K n1 ρ1 S1 H1 d acc n6 ρ6 S6 H' ∧ Le0 X.K n5 ρ5 S5 H5 n6 ρ6 S6 H' ∧
          compA (Wk.still ⟨items1, src1⟩) step1 fin (items1.drop (j + 1)) acc S6, fun H' h => ⟨_, by omega, h⟩, fun x1 H7 hyy1 => ?_⟩
        obtain ⟨le7, ok7, dd1, ed1, rx1⟩ := hy1 x1 H7 hyy1
        have ed1 : items1[j]? = some dd1 := ed1
        rw [List.getElem?_eq_getElem hlt1] at ed1
        cases ed1
        have bi7 := bi6.step le7 ok7
        generalize hfin1 : compA (Wk.still ⟨items1, src1⟩) step1 fin (items1.drop (j + 1)) = fin1 at cl6
        have cl6 : step1 items1[j] acc6 S6 fin1 := cl6
        subst hst1
        refine ⟨n6, ρ6, S6, wipeV ε' own1, _, _, ok7, ((er5.mono0 l6).mono le7).wipe own1, rx1, cl6, fun ε2 σ2 e2 u2 wt2 => ⟨by rw [u2 own1 h31, wipe_wipe], ?_⟩⟩
        refine ⟨n6, ρ6, S6, ε2, _, fun _ _ _ => False, ok7, e2, wt2, fun b S8 n8 ρ8 H8 le8 ok8 q => ?_, fun _ _ _ _ _ _ _ z => z.elim⟩
        have bi8 := bi7.step le8 ok8
        have l8 := (l6.trans le7.toLe0).trans le8.toLe0
        cases b with
        | false => exact ⟨rfl, hlt1, n8, ρ8, S8, acc6, bi8, l8, q⟩
        | true =>
          obtain ⟨hl6, q⟩ := q
          refine ⟨n8, ρ8, S8, ε2, _, fun _ _ _ => False, ok8, e2.mono le8, q, fun y S9 n9 ρ9 H9 v le9 ok9 ry q => ?_, fun _ _ _ _ _ _ _ z => z.elim⟩
          have bi9 := bi8.step le9 ok9
          obtain ⟨vs, e9, z9, l9, b9⟩ := bi9.put ok1 hd ry hl6
          exact ⟨vs, e9, z9, rfl, hlt1, n9, ρ9, S9, _, b9, (l8.trans le9.toLe0).trans l9, q⟩
      · have hje : j = items1.length := Nat.le_antisymm hj (Nat.le_of_not_lt hlt1)
        rw [List.drop_eq_nil_of_le (Nat.le_of_not_lt hlt1)] at cl6
        obtain ⟨st1, cl6⟩ := cl6
        exact .inl ⟨(wk1 n6 ρ6 S6 H6 l6 ok6 st1 j).2 (Nat.le_of_not_lt hlt1), rfl, hlt, n6, ρ6, S6, acc6, bi6, cl6⟩
  · have hie : i = items.length := Nat.le_antisymm hi (Nat.le_of_not_lt hlt)
    rw [List.drop_eq_nil_of_le (Nat.le_of_not_lt hlt)] at cl
    obtain ⟨st, cl⟩ := cl
    refine .inl ⟨(wk n2 ρ2 S2 H2 lb ok2 st i).2 (Nat.le_of_not_lt hlt), ?_⟩
    obtain ⟨bl, _, vs, hv, ra, hl⟩ := bi
    obtain ⟨le, ok', p⟩ := Bl.done ok1 hd bl hv (bld_lst _) ok2
    have := newL_ok ok' (kd1.mono le) (ra.mono0 p) hl cl d clr_same
    rw [clr_upd hv] at this
    exact this
end
end TH
namespace TH
open PySem PySem.Spec PyProof.Rows L2
/-! ### x in d.values() -/
theorem cv_entry : entryFor table "proto.contains_iter" = some Builtin.«proto.contains_iter» := entryFor_of_tree (by kernel_rfl)
theorem cv_plain : plainId "proto.contains_iter" = true := by decide +kernel
theorem cv_none : typeLookup (.type "dict_values") "__contains__" = pure none := am_miss_of_fast (by decide +kernel)
def valsO (p d : Addr) : HO := .ext fun h => h.IsValuesView p d
theorem valsO_ok {P : Program} {w : World} {H : Hp} {h : Heap} {p d : Addr} (e : h.get? p = some { cls := .type "dict_values", data := .fields #[.ref d] }) : ObjOk P w H h p (valsO p d) :=
  ⟨⟨_, e, rfl, rfl⟩, ⟨_, e⟩, fun h1 h2 x k => let ⟨o, ho, r⟩ := x; ⟨o, k o ho, r⟩⟩
section
variable {X : Cx}
/-- the view is laid -/
def tVw (t : TE) : TE := fun σ H Q => t σ H fun x H1 => ∃ d o kvs, x = .ref d ∧ H1 d = some (.frz o (.dK kvs)) ∧ ∀ p, H1 p = none → Q (.ref p) (upd H1 p (valsO p d))
theorem pe_vw {e : Expr} {apos cpos : Pos} {t : TE} (he : PE X e t) (hbase : attributeBase e "values" X.env (eval e X.env) = eval e X.env) (hline : (apos.endLine == cpos.line) = true) : PE X (.Call (.Attribute e "values" apos) [] [] cpos) (tVw t) := by
  refine ⟨fun pins s σ H Q I h => ?_⟩
  refine wpAny_Call_method (T := "dict") (id := "dict.values") hbase rfl hline F.plainAttrs_dict F.slot_dict_values F.type_dict_values (thn (he.run pins s σ H _ I h) fun u s1 ⟨x, H1, I1, r, z⟩ => ?_)
  obtain ⟨d, o, kvs, ex, hd, q⟩ := z
  subst ex
  obtain rfl : u = Value.ref d := r
  obtain ⟨c1, _, _, _, _, vs, _, _, kv, hm⟩ := I1.frzK hd
  refine ⟨hm.dictOf.typeIs, hm.dictOf.mapOf.noDict, ?_⟩
  have fin : EP X pins σ Q (.ref s1.heap.objs.size) { s1 with heap := s1.heap.push { cls := .type "dict_values", data := .fields #[.ref d] } } :=
    ⟨.ref s1.heap.objs.size, upd H1 s1.heap.objs.size (valsO s1.heap.objs.size d), I1.laid (t' := s1.toks) (fun b u e => Heap.get?_push_of_some _ e) (Nat.le_refl _) (valsO_ok (Heap.get?_push_size _ rfl)), rfl, q _ (I1.hok.fresh (Nat.le_refl _))⟩
  show wpAny _ _ (callWith cpos (.builtin "dict.values") [.ref d] [] []) _ X.xe s1
  exact method_meetsIn F.slot_dict_values F.entry_dict_values rfl (PySem.evalArgs_none ⟨rfl, hm.dictOf.typeIs, F.args_dict_values_1 _, _, meets_dict_values (mixKind X.prog X.w) d c1, ⟨vs, hm.dictOf⟩, fin⟩)
/-- the walk of the values: is there an equal one -/
theorem cv_loop (hu : X.A.units + 70 < cLine) (hc : X.calm = true) {pins : List (Addr × Obj)} {σ : L2.St} {H : Hp} {d it : Addr} {o : Obj} {es : Array DictEntry} {ep : Nat} {kvs : List (Key × V)} {x : V} {u : Value} {dx : PyData} {ds : List PyData}
    (hod : o.data = .dict es ep) (hd : H d = some (.frz o (.dK kvs))) (rx : RelV x u) (hx : Dp X.K H x dx) (cx : dx.canLay0 = true) (hl : ds.length = kvs.length)
    (hv : ∀ (i : Nat) (k : Key) (v : V), kvs[i]? = some (k, v) → ∃ y, ds[i]? = some y ∧ Dp X.K H v y ∧ y.canLay0 = true ∧ min y.depth dx.depth ≤ 65) (f : FpOk X pins H it) :
    ∀ (m i : Nat) (s : Shared), m = kvs.length - i → Inv X pins σ H s → s.heap.IsValIter it d i kvs.length ep →
      codeAny (model X.prog X.w) X.A (.builtin "proto.contains_iter" ⟨[.ref it, u], []⟩)
        (fun r s' => match r with
          | .ok (.ret v) => v = .bool ((ds.drop i).any fun y => PyData.eqv y dx) ∧ Inv X pins σ H s'
          | .ok _ => False
          | .error e => X.xe e s') s := by
  obtain ⟨f0, f1, f2, f3, f4, f5⟩ := f
  intro m
  induction m with
  | zero =>
    intro i s hm I st
    obtain ⟨_, _, _, es', ep', vs, hdt, hsz, kv, hm'⟩ := I.frzK hd
    obtain ⟨rfl, rfl⟩ := dict_ep hod hdt
    have hlv : kvs.length = vs.length := Paired.length kv
    rw [hlv] at st
    refine codeAny_builtin cv_entry ?_
    rw [Around.under_plainId cv_plain _]
    show wpAny _ X.A.in1 (pyNext (.ref it) >>= _) _ _ s
    refine wpAny_bind (wpAny_pyNext_values_end (I.ok.hd hc) st hm' (List.getElem?_eq_none (by omega)) fun h' eb => ?_)
    refine wpAny_bind (wpAny_rule (wpAny_pure ?_))
    have e : ds.drop i = [] := List.drop_eq_nil_of_le (by omega)
    refine ⟨?_, I.turned (t' := s.toks) (fun b ob hb e => eb b ob hb e) f0 f1 f3 f4 f5⟩
    rw [e]; rfl
  | succ m ih =>
    intro i s hm I st
    obtain ⟨_, _, _, es', ep', vs, hdt, hsz, kv, hm'⟩ := I.frzK hd
    obtain ⟨rfl, rfl⟩ := dict_ep hod hdt
    have hlv : kvs.length = vs.length := Paired.length kv
    have hi : i < kvs.length := by omega
    obtain ⟨⟨k, v⟩, hkv⟩ : ∃ p, kvs[i]? = some p := ⟨kvs[i], List.getElem?_eq_getElem hi⟩
    obtain ⟨w, hw, rw'⟩ := kv_get kv hkv
    obtain ⟨y, hy, dy, cy, my⟩ := hv i k v hkv
    rw [hlv] at st
    refine codeAny_builtin cv_entry ?_
    rw [Around.under_plainId cv_plain _]
    show wpAny _ X.A.in1 (pyNext (.ref it) >>= _) _ _ s
    refine wpAny_bind (wpAny_pyNext_values_item st hm' hw fun h' st' sb => ?_)
    have I1 : Inv X pins σ H { s with heap := h' } := I.turned (t' := s.toks) (fun b ob hb e => (sb.2 b hb).trans e) f0 f1 f3 f4 f5
    obtain ⟨as, r1⟩ := Dp.reads I1 dx x u hx rx
    obtain ⟨bs, r2⟩ := Dp.reads I1 y v w dy rw'
    show wpAny _ X.A.in1 (eqBool w u >>= _) _ _ _
    refine wpAny_bind (SeqAt.eqAt_reads y dx X.A.in1 _ w u _ _ r2 r1 cy cx (by show X.A.units + 1 + min y.depth dx.depth < cLine; omega) X.prog X.w _ _ ?_)
    have ed : ds.drop i = y :: ds.drop (i + 1) := by
      have hi' : i < ds.length := by omega
      rw [List.drop_eq_getElem_cons hi']
      rw [List.getElem?_eq_getElem hi'] at hy
      cases hy; rfl
    rw [ed, List.any_cons]
    cases hb : PyData.eqv y dx with
    | true => exact wpAny_bind (wpAny_rule (wpAny_pure ⟨rfl, I1⟩))
    | false =>
      refine wpAny_pure ⟨plainId_quiet cv_plain _, ?_⟩
      exact ih (i + 1) _ (by omega) I1 (by rw [hlv]; exact st')
theorem in_vals (hu : X.A.units + 70 < cLine) (hc : X.calm = true) {H : Hp} {Q : VK} {p d : Addr} {o : Obj} {kvs : List (Key × V)} {x : V} {dx : PyData} {ds : List PyData} (hp : H p = some (valsO p d)) (hd : H d = some (.frz o (.dK kvs)))
    (hx : Dp X.K H x dx) (cx : dx.canLay0 = true) (hl : ds.length = kvs.length) (hv : ∀ (i : Nat) (k : Key) (v : V), kvs[i]? = some (k, v) → ∃ y, ds[i]? = some y ∧ Dp X.K H v y ∧ y.canLay0 = true ∧ min y.depth dx.depth ≤ 65)
    (q : Q (.bl (ds.any fun y => PyData.eqv y dx)) H) : bR2 X (compareOp .In) x (.ref p) H Q := by
  intro pins s σ v u I rx ry
  cases ry
  have view : s.heap.IsValuesView p d := (show ObjOk X.prog X.w H s.heap p (valsO p d) from I.hok p _ hp).1
  have hT := view.typeIs
  obtain ⟨_, _, _, es, ep, vs, hdt, hsz, kv, hm⟩ := I.frzK hd
  have hlv : kvs.length = vs.length := Paired.length kv
  show wpAny _ _ (do return Value.bool (← contains (Value.ref p) v)) _ _ s
  refine wpAny_bind ?_
  unfold contains
  refine wpAny_holding ?_
  rw [stdlibNamesSay?_of_typeIs hT]
  refine wpAny_bind (wpAny_specialOf hT cv_none ?_)
  show wpAny _ _ (if ((none : Option Value) == some Value.none) = true then _ else _) _ _ s
  rw [if_neg (by decide)]
  refine wpAny_bind (wpAny_callSpecialUnlessNone?_none hT cv_none ?_)
  refine wpAny_bind (wpAny_rule ?_)
  refine wpAny_bind (wpAny_tryCatch (wpAny_pyIter_values view hm ?_))
  have I2 : Inv X pins σ H { s with heap := s.heap.push { cls := .type "dict_valueiterator", data := .fields #[.ref d, .int 0 0, .int vs.length 0, .int ep 0] } } := I.kept (t' := s.toks) fun b ob e => Heap.get?_push_of_some _ e
  have f : FpOk X pins H s.heap.objs.size := I.fpOk (Nat.le_refl _) (I.hok.fresh (Nat.le_refl _))
  refine wpAny_bind (wpAny_runValue (codeAny_mono (cv_loop hu hc hdt hd rx hx cx hl hv f kvs.length 0 _ rfl I2 ⟨_, Heap.get?_push_size _ rfl, rfl, by rw [hlv]; rfl⟩) fun r s' h => ?_))
  match r, h with
  | .ok (.ret w), h =>
    obtain ⟨rfl, I3⟩ := h
    exact wpAny_pure (wpAny_pure ⟨.bl (ds.any fun y => PyData.eqv y dx), H, I3, rfl, q⟩)
  | .error e, h => exact h
end
section
variable {G : Sg} {P : Prog} {Φ : FnSem} {fA : Nat → Addr} {ca : Nat → Value} {Γ : Gm} {k : Nat} {Wx : XK} {X : Cx}
theorem DpAll.at {K : PySem.W.Frag} {H : Hp} : ∀ {vs : List V} {ds : List PyData}, DpAll K H vs ds → PyData.canLayAll0 ds = true → ds.length = vs.length ∧ ∀ (i : Nat) (v : V), vs[i]? = some v → ∃ y, ds[i]? = some y ∧ Dp K H v y ∧ y.canLay0 = true ∧ y.depth ≤ PyData.depthAll ds
  | _, _, .nil, _ => ⟨rfl, fun i v e => by simp at e⟩
  | _, _, .cons (d := d) (ds := ds) h t, c => by
    have c' : d.canLay0 = true ∧ PyData.canLayAll0 ds = true := by simpa [PyData.canLayAll0] using c
    obtain ⟨hl, ht⟩ := DpAll.at t c'.2
    refine ⟨by simp [hl], fun i v e => ?_⟩
    cases i with
    | zero =>
      cases (Option.some.inj e)
      exact ⟨d, rfl, h, c'.1, Nat.le_max_left _ _⟩
    | succ j =>
      obtain ⟨y, a1, a2, a3, a4⟩ := ht j v (by simpa using e)
      exact ⟨y, by simpa using a1, a2, a3, Nat.le_trans a4 (Nat.le_max_right _ _)⟩
theorem inv_te (c : Cok G P Φ fA ca Γ k Wx X) {a o : IE} : ∀ σ H Q, (rdE P Φ ca Wx X) (.inv a o) σ H Q → tOp (bR2 X (compareOp .In)) ((rdE P Φ ca Wx X) a) (tVw (tLk ((rdE P Φ ca Wx X) o))) σ H Q := by
  rintro σ H Q ⟨n, ρ, S, ε, Q0, E0, ok, er, w, kd, xr⟩
  refine rdE_go ok er w xr fun x S1 n1 ρ1 H1 v le1 ok1 er1 xr1 rx w => ?_
  refine rdE_go ok1 er1 w xr1 fun y S2 n2 ρ2 H2 u le2 ok2 er2 xr2 ry w => ?_
  cases ry with
  | @idic d ks ds vs h z el nd ht rk r =>
    obtain ⟨x', l', hx, hl', hm, q⟩ := w
    rw [List.map_snd_zip (by rw [List.length_map]; exact Nat.le_of_eq el.symm)] at hl'
    have rx2 := rx.mono le2
    refine ⟨d, ks.zip vs, rfl, ?_⟩
    -- at a heap where it is locked
    have fin : ∀ (o : Obj) (H3 : Hp), Le X.K n2 ρ2 S2 H2 n2 ρ2 S2 H3 → Ok X.K n2 ρ2 S2 H3 → H3 d = some (.frz o (.dK (ks.zip vs))) → ∀ p, H3 p = none → bR2 X (compareOp .In) v (.ref p) (upd H3 p (valsO p d)) Q := fun o H3 le3 ok3 h3 p hp => by
      have sm : Same H3 (upd H3 p (valsO p d)) := same_upd hp
      have le4 : Le X.K n2 ρ2 S2 H3 n2 ρ2 S2 (upd H3 p (valsO p d)) := Le.same ok3 sm
      have ok4 := ok3.same sm
      obtain ⟨d1, c1⟩ := Rs.dp ok4 hx ((rx2.mono le3).mono le4)
      obtain ⟨d2, c2⟩ := RsL.dp ok4 hl' ((r.mono le3).mono le4)
      obtain ⟨hlen, hat⟩ := DpAll.at d2 c2
      refine in_vals c.hu c.calm (dx := toP x') (ds := toPL l') upd_same (sm _ _ h3) d1 c1 (by rw [hlen, zl el r, el, r.length]) (fun i k w e => ?_) ?_
      · obtain ⟨_, e2⟩ := zip_get e
        obtain ⟨y, a1, a2, a3, a4⟩ := hat i w e2
        refine ⟨y, a1, a2, a3, ?_⟩
        rw [dep_toPL] at a4
        rw [dep_toP]
        omega
      · rw [toPL_any x' hx.pl l' hl'.pl]
        exact (kd.mono ((le1.trans le2).trans (le3.trans le4))).here ok4 (.bl _) q
    rcases h with h | ⟨o, h⟩
    · refine .inr ⟨h, fun od => ?_⟩
      exact ⟨d, od, _, rfl, upd_same, fin od _ (Le.lock ok2 h ht) (ok2.lock h ht) upd_same⟩
    · exact .inl ⟨o, h, d, o, _, rfl, h, fin o H2 Le.refl ok2 h⟩
  | _ => exact False.elim w
theorem s_inv (c : Cok G P Φ fA ca Γ k Wx X) {a o : IE} {ea eo : Expr} {apos cpos pos : Pos} (ha : PE X ea ((rdE P Φ ca Wx X) a)) (ho : PE X eo ((rdE P Φ ca Wx X) o)) (hb : attrB eo = true) (hl : (apos.endLine == cpos.line) = true) :
    ES P Φ ca Wx X (.inv a o) (.Compare ea [.In] [.Call (.Attribute eo "values" apos) [] [] cpos] pos) where
  pe := PE.imp (pe_cmpR opR_best ha (pe_vw (pe_lk ho) (attrB_base hb _ _) hl) rfl) (inv_te c)
  pt := PT.imp (pt_cmpR opR_best ha (pe_vw (pe_lk ho) (attrB_base hb _ _) hl) rfl) fun σ H Q q => inv_te c _ _ _ (rdT_tB q)
  pw := fun ⟨_, _, _, z⟩ => by cases z
end
end TH
namespace TH
open PySem PySem.Spec PyProof.Rows L2
example : wkD (.tup [.int 3, .exc 7 [.tup []]]) = .tup [.int 3, .tup [.tup []]] := rfl
/-! ### a tuple that has no attributes of its own -/
section
variable {X : Cx}
theorem call_tupz : CallR X (.type "tuple") (fun xs H Q => ∃ p ys, xs = [.ref p] ∧ SqL X.K H p ys ∧ ∀ (l : Addr) (od : Obj), H l = none → od.dict = none → Q (.ref l) (upd H l (.frz od (.tup ys)))) := by
  intro pins s σ H xs us Q I r h
  obtain ⟨p, ys, rfl, hq, q⟩ := h
  obtain ⟨u, rfl, rx⟩ := vals1 r
  cases rx
  obtain ⟨its, rl, pl, z⟩ := I.list hq
  have el := rl.length
  refine call_tuple_list pl.isList (fun h2 kp => ?_) (by simp only [List.size_toArray] <;> omega)
  have J : Inv X pins σ H { s with heap := h2 } := I.kept (t' := s.toks) kp
  have at_ : (h2.push { cls := .type "tuple", data := .seq its.toArray }).get? h2.objs.size = some { cls := .type "tuple", data := .seq its.toArray } := Heap.get?_push_size _ rfl
  refine ⟨.ref h2.objs.size, _, J.laid (o := .frz { cls := .type "tuple", data := .seq its.toArray } (.tup ys)) (t' := s.toks) (fun b o e => Heap.get?_push_of_some _ e) (Nat.le_refl _) ?_, rfl, q _ _ (J.hok.fresh (Nat.le_refl _)) rfl⟩
  exact ⟨at_, z, its, rl, IsTup.new _ _⟩
theorem pairs_z {pins : List (Addr × Obj)} {σ : L2.St} {H : Hp} {s : Shared} (I : Inv X pins σ H s) : ∀ {ps : List Addr} {kvs : List (Key × V)}, Paired (fun p kv => SqT X.K H p [kV kv.1, kv.2]) ps kvs →
    ∃ (prs : List (Key × Value)) (kv2 : List (Value × Value)), KV kvs prs ∧ kv2.length = ps.length ∧ prs.length = ps.length ∧ ∀ (j : Nat) (u v : Value), kv2[j]? = some (u, v) → ∃ (b : Addr) (k : Key), ps[j]? = some b ∧ prs[j]? = some (k, v) ∧ IsTup s.heap b #[u, v] ∧ keyIs k u = true
  | _, _, .nil => ⟨[], [], .nil, rfl, rfl, fun j u v e => by simp at e⟩
  | _, _, .cons (a := p) (b := kv) h t => by
    obtain ⟨prs, kv2, r, l1, l2, hp⟩ := pairs_z I t
    obtain ⟨its, rv, ht, _⟩ := I.tuple h
    obtain ⟨u, y, ei, ru, ry⟩ := vals2 rv
    subst ei
    refine ⟨(kv.1, y) :: prs, (u, y) :: kv2, .cons ⟨rfl, ry⟩ r, by rw [List.length_cons, List.length_cons, l1], by rw [List.length_cons, List.length_cons, l2], fun j u' v' e => ?_⟩
    cases j with
    | zero =>
      cases (Option.some.inj e)
      exact ⟨p, kv.1, rfl, rfl, ht, kV_is (P := X.prog) (w := X.w) ru⟩
    | succ j =>
      obtain ⟨b, k, e1, e2, e3, e4⟩ := hp j u' v' (by simpa using e)
      exact ⟨b, k, by simpa using e1, by simpa using e2, e3, e4⟩
theorem call_dictz (hc : X.calm = true) : CallR X (.type "dict") (fun xs H Q => ∃ (a : Addr) (od : Obj) (ps : List Addr) (kvs : List (Key × V)), xs = [.ref a] ∧ H a = some (.frz od (.tup (ps.map V.ref))) ∧ od.dict = none ∧ Paired (fun p kv => SqT X.K H p [kV kv.1, kv.2]) ps kvs ∧
    ∀ p, H p = none → Q (.ref p) (upd H p (.dK (mergeK [] kvs)))) := by
  intro pins s σ H xs us Q I r h
  obtain ⟨a, od, ps, kvs, ex, ha, hd, hp, q⟩ := h
  subst ex
  obtain ⟨u, eu, rx⟩ := vals1 r
  subst eu
  cases rx
  obtain ⟨hg, z, its, rv, o, ho, hcl, n, hdat⟩ := I.hok a _ ha
  rw [hg] at ho
  cases ho
  have ei := refs_at rv
  subst ei
  obtain ⟨prs, kv2, rel, l1, l2, hpr⟩ := pairs_z I hp
  have hz : ps.length ≤ sizeLine := by rw [List.length_map] at z; exact z
  have ok : PySem.PlainSeq "tuple" s.heap a (ps.map Value.ref).toArray ∧ PySem.PairItems s.heap (ps.map Value.ref).toArray (fun j => ps.getD j 0) kv2 := by
    refine ⟨⟨od, n, hg, hcl, hd, hdat⟩, by simp [l1], fun j k v e => ?_⟩
    obtain ⟨b, kk, e1, _, e3, _⟩ := hpr j k v e
    have e5 : ps.getD j 0 = b := by rw [List.getD_eq_getElem?_getD, e1]; rfl
    refine ⟨by simp [e1], ?_⟩
    show PySem.PairAt s.heap (ps.getD j 0) k v
    rw [e5]
    exact .inl e3
  refine PySem.call_dict_pairs (knd := mixKind X.prog X.w) (kvs := prs) (PySem.PairArg.tuple a (ps.map Value.ref).toArray (fun j => ps.getD j 0) kv2) (I.ok.hd hc) ok ⟨by rw [l1, l2], fun i key v e => ?_⟩ (by rw [l1]; exact hz) fun h' tk hd' k => ?_
  · obtain ⟨b, kk, _, e2, _, e4⟩ := hpr i key v e
    exact ⟨kk, e2, e4⟩
  · have hm : (s.heap.objs.size == sysModules) = false := beq_eq_false_iff_ne.mpr (Nat.ne_of_gt I.big)
    have hlen : (mergeK [] kvs).length ≤ sizeLine := by
      refine Nat.le_trans (length_mergeK kvs []) ?_
      rw [List.length_nil, Nat.zero_add, rel.length, l2]
      exact hz
    have new : ObjOk X.prog X.w (upd H s.heap.objs.size (.dK (mergeK [] kvs))) h' s.heap.objs.size (.dK (mergeK [] kvs)) := ⟨hlen, hm, merged [] prs, KV.merge rel .nil, hd'⟩
    exact ⟨.ref s.heap.objs.size, upd H s.heap.objs.size (.dK (mergeK [] kvs)), I.laid (t' := tk) (fun b o e => k b o (by simp) e) (Nat.le_refl _) new, rfl, q _ (I.hok.fresh (Nat.le_refl _))⟩
end
mutual
theorem Rp.wk {K : PySem.W.Frag} {n : Nat} {ρ : Rho} {S : Sto} {H : Hp} : ∀ {d : D} {v : V}, Rp K n ρ S H d v → Rp K n ρ S H (wkD d) v
  | _, _, .non => .non
  | _, _, .bl b => .bl b
  | _, _, .int i => .int i
  | _, _, .str h => .str h
  | _, _, .tup h z r => .tup h (by rw [wk_len]; exact z) (RpL.wk r)
  | _, _, .ilst h z ht r => .ilst h z ht r
  | _, _, .idic h z el nd ht rk r => .idic h z el nd ht rk r
  | _, _, .tpz h hd z r => .tup (.inl (.inr ⟨_, h⟩)) (by rw [wk_len]; exact z) (RpL.wk r)
  | _, _, .ref h => .ref h
theorem RpL.wk {K : PySem.W.Frag} {n : Nat} {ρ : Rho} {S : Sto} {H : Hp} : ∀ {d : List D} {v : List V}, RpL K n ρ S H d v → RpL K n ρ S H (wkD.wkL d) v
  | _, _, .nil => .nil
  | _, _, .cons h t => .cons (Rp.wk h) (RpL.wk t)
theorem wk_len : ∀ (l : List D), (wkD.wkL l).length = l.length
  | [] => rfl
  | x :: r => by show (wkD.wkL r).length + 1 = r.length + 1; rw [wk_len r]
end
section
variable {G : Sg} {P : Prog} {Φ : FnSem} {fA : Nat → Addr} {ca : Nat → Value} {Γ : Gm} {k : Nat} {Wx : XK} {X : Cx}
theorem s_varw (c : Cok G P Φ fA ca Γ k Wx X) {i : Nat} {e : Expr} (h : chkE G (.varw i) Γ e = true) : (ES P Φ ca Wx X) (.varw i) e := by
  unfold chkE at h
  split at h
  · rename_i x p
    obtain ⟨h, h4⟩ := and2 h
    obtain ⟨h1, h2, h3⟩ := and3 h
    refine .val (PE.imp (pe_var (i := i) (by rw [c.N]; exact of_decide_eq_true h1) (c.vis h2) (nnot h3) (nnot h4)) ?_) rfl
    rintro σ H Q ⟨n, ρ, S, ε, Q0, E0, ok, er, w, kd, xr⟩
    have w : (match getV ε i with
      | some d => Q0 (wkD d) S
      | none => False) := w
    split at w
    · rename_i d e
      obtain ⟨v, ev, r⟩ := er.get _ _ e
      exact ⟨v, ev, kd.here ok r.wk w⟩
    · exact w.elim
  · cases h
theorem s_tupz (c : Cok G P Φ fA ca Γ k Wx X) {a : IE} {e : Expr} {p pos : Pos} (h2 : glB Γ.sc ("tuple" : Str) = true) (ha : PE X e ((rdE P Φ ca Wx X) a)) (hp : plX e = true) : PE X (.Call (.Name "tuple" p) [e] [] pos) ((rdE P Φ ca Wx X) (.tupz a)) := by
  obtain ⟨hg, hd⟩ := c.gl h2
  refine PE.imp (pe_callTy call_tupz hg (c.blt _ (by decide)) boot_tuple (pa_cons ha pa_nil (pl_star hp _ _)) (by decide) hd (pl_star hp _ _) rfl) ?_
  rintro σ H Q ⟨n, ρ, S, ε, Q0, E0, ok, er, w, kd, xr⟩
  refine rdE_go ok er w xr fun x S1 n1 ρ1 H1 v le1 ok1 er1 xr1 rx w => ?_
  have w : (match lstOf S1 x with
    | some l => Q0 (.exc 7 l) S1
    | none => False) := w
  split at w
  · rename_i l e
    obtain ⟨b, us, rfl, hs, rl, z⟩ := lstOf_ok ok1 e rx
    refine ⟨b, us, rfl, hs, fun q od hq hd => ?_⟩
    have sm : Same H1 (upd H1 q (.frz od (.tup us))) := same_upd hq
    exact kd _ S1 n1 ρ1 _ _ (le1.trans (Le.same ok1 sm)) (ok1.same sm) (.tpz upd_same hd z (rl.mono (Le.same ok1 sm))) w
  · exact w.elim
theorem pairsOf_inv : ∀ {l : List D} {kvs : List (D × D)}, pairsOf l = some kvs → l = kvs.map tupP
  | [], kvs, h => by cases h; rfl
  | d :: r, kvs, h => by
    unfold pairsOf at h
    split at h
    · rename_i e; cases e
    · rename_i a b r' e
      injection e with e1 e2
      subst e1 e2
      obtain ⟨kvs', e', rfl⟩ := Option.map_eq_some_iff.mp h
      rw [List.map_cons, ← pairsOf_inv e']; rfl
    · cases h
theorem pairs_rp {K : PySem.W.Frag} {n : Nat} {ρ : Rho} {S : Sto} {H : Hp} : ∀ {kvs : List (D × D)} {vs : List V}, (kvs.all fun p => p.1.kS) = true → RpL K n ρ S H (kvs.map tupP) vs →
    ∃ (ps : List Addr) (zs : List (Key × V)), vs = ps.map V.ref ∧ Paired (fun p kv => SqT K H p [kV kv.1, kv.2]) ps zs ∧ Paired (fun (q : D × D) (z : Key × V) => q.1 = kD z.1 ∧ Rp K n ρ S H (kD z.1) (kV z.1) ∧ Rp K n ρ S H q.2 z.2) kvs zs
  | [], vs, hk, r => by cases r; exact ⟨[], [], rfl, .nil, .nil⟩
  | q :: kvs, vs, hk, r => by
    rw [List.map_cons] at r
    rw [List.all_cons, Bool.and_eq_true] at hk
    cases r with
    | cons rd rl =>
      obtain ⟨ps, zs, rfl, h1, h2⟩ := pairs_rp hk.2 rl
      cases rd with
      | @tup a _ us hs z rt =>
        cases rt with
        | cons rx rt =>
          cases rt with
          | cons ry rt =>
            cases rt
            obtain ⟨x, y⟩ := q
            have hkx : x.kS = true := hk.1
            have ex : ∀ {v : V}, Rp K n ρ S H x v → ∃ kk : Key, x = kD kk ∧ v = kV kk := fun {v} rx => by
              cases rx with
              | int i => exact ⟨.inl i, rfl, rfl⟩
              | str h => exact ⟨.inr _, rfl, rfl⟩
              | _ => cases hkx
            obtain ⟨kk, e1, e2⟩ := ex rx
            subst e1 e2
            exact ⟨a :: ps, (kk, _) :: zs, rfl, .cons hs h1, .cons ⟨rfl, rx, ry⟩ h2⟩
theorem merge_rp {K : PySem.W.Frag} {n : Nat} {ρ : Rho} {S : Sto} {H : Hp} : ∀ {kvs : List (D × D)} {zs : List (Key × V)}, Paired (fun (q : D × D) (z : Key × V) => q.1 = kD z.1 ∧ Rp K n ρ S H (kD z.1) (kV z.1) ∧ Rp K n ρ S H q.2 z.2) kvs zs →
    ∀ {ks : List Key} {ds : List D} {vs : List V}, ks.Nodup → ks.length = ds.length → RpL K n ρ S H (ks.map kD) (ks.map kV) → RpL K n ρ S H ds vs →
    ∃ (ks' : List Key) (ds' : List D) (vs' : List V), ks'.Nodup ∧ ks'.length = ds'.length ∧ RpL K n ρ S H (ks'.map kD) (ks'.map kV) ∧ RpL K n ρ S H ds' vs' ∧ kvs.foldl (fun l p => putKD p.1 p.2 l) ((ks.map kD).zip ds) = (ks'.map kD).zip ds' ∧ mergeK (ks.zip vs) zs = ks'.zip vs' ∧ ks'.length ≤ ks.length + kvs.length
  | _, _, .nil, ks, ds, vs, nd, el, rk, rd => ⟨ks, ds, vs, nd, el, rk, rd, rfl, rfl, Nat.le_refl _⟩
  | _, _, .cons (a := q) (b := z) h t, ks, ds, vs, nd, el, rk, rd => by
    obtain ⟨e, r1, r2⟩ := h
    obtain ⟨ks', ds', vs', a1, a2, a3, a4, a5, a6, a7, _⟩ := put_zip r1 r2 nd el rk rd
    obtain ⟨ks2, ds2, vs2, b1, b2, b3, b4, b5, b6, b7⟩ := merge_rp t a1 a2 a3 a4
    refine ⟨ks2, ds2, vs2, b1, b2, b3, b4, ?_, ?_, by rw [List.length_cons]; omega⟩
    · rw [List.foldl_cons, e, a5, b5]
    · show mergeK (putK (ks.zip vs) z.1 z.2) _ = _
      rw [a6, b6]
theorem s_dictz (c : Cok G P Φ fA ca Γ k Wx X) {fl : Bool} {a : IE} {e : Expr} {p pos : Pos} (h2 : glB Γ.sc ("dict" : Str) = true) (ha : PE X e ((rdE P Φ ca Wx X) a)) (hp : plX e = true) : PE X (.Call (.Name "dict" p) [e] [] pos) ((rdE P Φ ca Wx X) (.dictz fl a)) := by
  obtain ⟨hg, hd⟩ := c.gl h2
  refine PE.imp (pe_callTy (call_dictz c.calm) hg (c.blt _ (by decide)) boot_dict (pa_cons ha pa_nil (pl_star hp _ _)) (by decide) hd (pl_star hp _ _) rfl) ?_
  rintro σ H Q ⟨n, ρ, S, ε, Q0, E0, ok, er, w, kd, xr⟩
  refine rdE_go ok er w xr fun x S1 n1 ρ1 H1 v le1 ok1 er1 xr1 rx w => ?_
  cases rx with
  | @tpz a ds vs od h hd z r =>
    have w2 : (match pairsOf ds with
      | some kvs => (kvs.all fun p => p.1.kS) = true ∧ newD fl (mkDic kvs) S1 Q0
      | none => False) := w
    split at w2
    · rename_i kvs e
      have e := pairsOf_inv e
      subst e
      rw [List.length_map] at z
      obtain ⟨ps, zs, rfl, p1, p2⟩ := pairs_rp w2.1 r
      refine ⟨a, od, ps, zs, rfl, h, hd, p1, fun q hq => ?_⟩
      obtain ⟨ks, ds', vs', b1, b2, b3, b4, b5, b6, b7⟩ := merge_rp p2 (ks := []) (ds := []) (vs := []) List.nodup_nil rfl .nil .nil
      have b5 : mkDic kvs = (ks.map kD).zip ds' := b5
      have b6 : mergeK [] zs = ks.zip vs' := b6
      have b7 : ks.length ≤ kvs.length := by simpa using b7
      rw [b6]
      have w := w2.2
      rw [b5] at w
      have sm : Same H1 (upd H1 q (.dK (ks.zip vs'))) := same_upd hq
      cases fl with
      | false =>
        have w : Q0 (.idic ((ks.map kD).zip ds')) S1 := w
        refine kd _ S1 n1 ρ1 _ _ (le1.trans (Le.same ok1 sm)) (ok1.same sm) (.idic (.inl upd_same) (Nat.le_trans b7 z) b2 b1 (fun t => ?_) (b3.mono (Le.same ok1 sm)) (b4.mono (Le.same ok1 sm))) w
        obtain ⟨u, hu⟩ := Trk.some_of ok1 t
        rw [hq] at hu; cases hu
      | true =>
        have w : ∀ n, S1 n = none → Q0 (.ref n) (S1.set n (.dic ((ks.map kD).zip ds') false)) := w
        have le : Le X.K n1 ρ1 S1 H1 (n1 + 1) (rho ρ1 n1 q) (S1.set n1 (.dic ((ks.map kD).zip ds') false)) (upd H1 q (.dK (ks.zip vs'))) := Le.new ok1 hq
        refine kd _ _ (n1 + 1) (rho ρ1 n1 q) _ _ (le1.trans le) (Ok.new (o := .dic ((ks.map kD).zip ds') false) ok1 hq ⟨ks, ds', vs', rfl, b2, b1, Nat.le_trans b7 z, b3.mono le, b4.mono le, upd_same⟩) ?_ (w n1 ok1.none_n)
        have := Rp.ref (K := X.K) (n := n1 + 1) (ρ := rho ρ1 n1 q) (S := S1.set n1 (.dic ((ks.map kD).zip ds') false)) (H := upd H1 q (.dK (ks.zip vs'))) (Nat.lt_succ_self n1)
        rw [rho_same] at this
        exact this
    · exact w2.elim
  | _ => exact False.elim w
end
end TH
namespace TH
open PySem PySem.Spec PyProof.Rows L2
section
variable {G : Sg} {P : Prog} {Φ : FnSem} {fA : Nat → Addr} {ca : Nat → Value} {k : Nat}
theorem chkI_fold {it : II} {Γ : Gm} {e : Expr} (h : chkI G it Γ e = true) (env : PySem.Env) (x : Value) : foldedSetIterable e env x = pure x := by
  cases it with
  | ex a => exact pl_fold (chkE_pl G (show chkE G a Γ e = true from h)) env x
  | rng1 a =>
    unfold chkI at h
    split at h
    · rfl
    · cases h
  | rng2 a b =>
    unfold chkI at h
    split at h
    · rfl
    · cases h
  | vals a =>
    unfold chkI at h
    split at h
    · rfl
    · cases h
  | itms a =>
    unfold chkI at h
    split at h
    · rfl
    · cases h
theorem lt2 {α : Type} {l : List α} (h : l.length < 2) : l = [] ∨ ∃ a, l = [a] := by
  match l, h with
  | [], _ => exact .inl rfl
  | [a], _ => exact .inr ⟨a, rfl⟩
  | _ :: _ :: _, h => exact absurd h (by simp)
theorem itm_tg {Γ : Gm} {it : II} {t : Tgt} {tg : Expr} (h : itmT it t = true) (ht : chkT Γ t tg = true) : ∀ a, it = .itms a → ∃ es kk p, tg = .Tuple es kk p := by
  rintro a rfl
  cases t with
  | nm i => cases h
  | tp is =>
    unfold chkT at ht
    split at ht
    · rename_i z; cases z
    · exact ⟨_, _, _, rfl⟩
    · cases ht
mutual
theorem sE : ∀ (ir : IE) {Γ : Gm} {Wx : XK} {X : Cx} {e : Expr}, Cok G P Φ fA ca Γ k Wx X → chkE G ir Γ e = true → ES P Φ ca Wx X ir e
  | .var i, Γ, Wx, X, e, c, h => s_var c h
  | .cst d, Γ, Wx, X, e, c, h => s_cst h
  | .glo g, Γ, Wx, X, e, c, h => s_glo c h
  | .bin op fl a b, Γ, Wx, X, e, c, h => by
    unfold chkE at h
    split at h
    · obtain ⟨h1, h2, h3⟩ := and3 h
      obtain rfl := of_decide_eq_true h1
      exact .val (s_bin (sE a c h2).pe (sE b c h3).pe) rfl
    · cases h
  | .neg a, Γ, Wx, X, e, c, h => by
    unfold chkE at h
    split at h
    · exact .val (s_neg (sE a c h).pe) rfl
    · cases h
  | .not a, Γ, Wx, X, e, c, h => by
    unfold chkE at h
    split at h
    · exact s_not (sE a c h)
    · cases h
  | .and a b, Γ, Wx, X, e, c, h => by
    unfold chkE at h
    split at h
    · obtain ⟨h1, h2⟩ := and2 h
      exact s_and2 (sE a c h1) (sE b c h2)
    · obtain ⟨h1, h2⟩ := and2 h
      exact s_and3 (sE a c h1) (sE b c h2)
    · cases h
  | .or a b, Γ, Wx, X, e, c, h => by
    unfold chkE at h
    split at h
    · obtain ⟨h1, h2⟩ := and2 h
      exact s_or2 (sE a c h1) (sE b c h2)
    · obtain ⟨h1, h2⟩ := and2 h
      exact s_or3 (sE a c h1) (sE b c h2)
    · cases h
  | .ite a b d, Γ, Wx, X, e, c, h => by
    unfold chkE at h
    split at h
    · obtain ⟨h1, h2, h3⟩ := and3 h
      exact s_ite (sE a c h1) (sE b c h2) (sE d c h3)
    · cases h
  | .cmp op a b, Γ, Wx, X, e, c, h => by
    unfold chkE at h
    split at h
    · obtain ⟨h1, h2, h3⟩ := and3 h
      obtain rfl := of_decide_eq_true h1
      exact s_cmp c (sE a c h2).pe (sE b c h3).pe (chkE_pl G h3)
    · cases h
  | .cmp2 o1 o2 a b d, Γ, Wx, X, e, c, h => by
    unfold chkE at h
    split at h
    · obtain ⟨h, h4, h5⟩ := and3 h
      obtain ⟨h1, h2, h3⟩ := and3 h
      obtain rfl := of_decide_eq_true h1
      obtain rfl := of_decide_eq_true h2
      exact s_cmp2 c (sE a c h3).pe (sE b c h4).pe (sE d c h5).pe (chkE_pl G h5)
    · cases h
  | .idx a b, Γ, Wx, X, e, c, h => by
    unfold chkE at h
    split at h
    · obtain ⟨h1, h2⟩ := and2 h
      exact .val (s_idx c (sE a c h1).pe (sE b c h2).pe (chkE_pl G h2)) rfl
    · cases h
  | .slL fl a b, Γ, Wx, X, e, c, h => by
    unfold chkE at h
    split at h
    · obtain ⟨h1, h2⟩ := and2 h
      exact .val (s_slL (sE a c h1).pe (sE b c h2).pe) rfl
    · cases h
  | .slH fl a b, Γ, Wx, X, e, c, h => by
    unfold chkE at h
    split at h
    · obtain ⟨h1, h2⟩ := and2 h
      exact .val (s_slH (sE a c h1).pe (sE b c h2).pe) rfl
    · cases h
  | .slB fl a b d, Γ, Wx, X, e, c, h => by
    unfold chkE at h
    split at h
    · obtain ⟨h1, h2, h3⟩ := and3 h
      exact .val (s_slB (sE a c h1).pe (sE b c h2).pe (sE d c h3).pe) rfl
    · cases h
  | .tup as, Γ, Wx, X, e, c, h => by
    unfold chkE at h
    split at h
    · obtain ⟨h1, h2⟩ := and2 h
      exact .val (s_tup (sA as c h1) (of_decide_eq_true h2)) rfl
    · cases h
  | .lst fl as, Γ, Wx, X, e, c, h => by
    unfold chkE at h
    split at h
    · obtain ⟨h1, h2⟩ := and2 h
      exact .val (s_lst (sA as c h1) (of_decide_eq_true h2)) rfl
    · cases h
  | .dic0 fl, Γ, Wx, X, e, c, h => by
    unfold chkE at h
    split at h
    · exact .val s_dic0 rfl
    · cases h
  | .call f as, Γ, Wx, X, e, c, h => by
    unfold chkE at h
    split at h
    · obtain ⟨h1, h2, h3⟩ := and3 h
      have hp := chkA_pl h3
      unfold plXs at hp
      rw [List.all_cons] at hp
      obtain ⟨p1, p2⟩ := and2 hp
      exact .val (s_call c (of_decide_eq_true h1) h2 (sA as c h3) p1 p2) rfl
    · cases h
  | .bf b fl as, Γ, Wx, X, e, c, h => by
    unfold chkE at h
    split at h
    · obtain ⟨h1, h2, h3⟩ := and3 h
      have hp := chkA_pl h3
      unfold plXs at hp
      rw [List.all_cons] at hp
      obtain ⟨p1, p2⟩ := and2 hp
      obtain rfl := of_decide_eq_true h1
      exact .val (s_bf c h2 (sA as c h3) p1 p2) rfl
    · cases h
  | .bm b fl o as, Γ, Wx, X, e, c, h => by
    unfold chkE at h
    split at h
    · obtain ⟨h, h5, h6⟩ := and3 h
      obtain ⟨h, h3, h4⟩ := and3 h
      obtain ⟨h1, h2⟩ := and2 h
      have hp := chkA_pl h6
      unfold plXs at hp
      rw [List.all_cons] at hp
      obtain ⟨p1, p2⟩ := and2 hp
      obtain rfl := of_decide_eq_true h1
      exact .val (s_bm c (sE o c h5).pe (sA as c h6) h2 h3 (of_decide_eq_true h4) p1 p2) rfl
    · cases h
  | .isi a t, Γ, Wx, X, e, c, h => by
    unfold chkE at h
    split at h
    · obtain ⟨h, h4, h5⟩ := and3 h
      obtain ⟨h1, h2, h3⟩ := and3 h
      obtain rfl := of_decide_eq_true h1
      obtain rfl := of_decide_eq_true h3
      exact .val (s_isi c h2 h4 (sE a c h5).pe (chkE_pl G h5)) rfl
    · cases h
  | .comp fl own t it ifs elt, Γ, Wx, X, e, c, h => by
    unfold chkE at h
    split at h
    · rename_i x tg iter cs scope p
      obtain ⟨h, h7, h8⟩ := and3 h
      obtain ⟨h, h5, h6⟩ := and3 h
      obtain ⟨h, h3, h4⟩ := and3 h
      obtain ⟨h1, h2⟩ := and2 h
      have own3 : ∀ i ∈ tgIds t, i ∈ own := fun i hi => of_decide_eq_true (List.all_eq_true.mp h3 i hi)
      refine .val (PE.imp (s_comp (fl := fl) c h1 (of_decide_eq_true h2) own3 (chkI_fold (and2 h4).2) (sI it c (and2 h4).2 (itm_tg (and2 h4).1 h5)) (fun X' c' => s_tgt c' h5) (fun X' c' => sTs ifs c' h7 (of_decide_eq_true h6)) fun X' c' => (sE elt c' h8).pe) (lc_te own3)) rfl
    · cases h
  | .dcomp fl own t it ke ve, Γ, Wx, X, e, c, h => by
    unfold chkE at h
    split at h
    · obtain ⟨h, h7, h8⟩ := and3 h
      obtain ⟨h, h5, h6⟩ := and3 h
      obtain ⟨h, h3, h4⟩ := and3 h
      obtain ⟨h1, h2⟩ := and2 h
      have own3 : ∀ i ∈ tgIds t, i ∈ own := fun i hi => of_decide_eq_true (List.all_eq_true.mp h4 i hi)
      obtain rfl := of_decide_eq_true h1
      exact .val (PE.imp (s_dcomp c h2 (of_decide_eq_true h3) (chkI_fold (and2 h5).2) (sI it c (and2 h5).2 (itm_tg (and2 h5).1 h6)) (fun X' c' => s_tgt c' h6) (fun X' c' => (sE ke c' h7).pe) fun X' c' => (sE ve c' h8).pe) (dc_te own3)) rfl
    · cases h
  | .comp2 fl own t it ifs own1 t1 it1 ifs1 elt, Γ, Wx, X, e, c, h => by
    unfold chkE at h
    split at h
    · obtain ⟨h, h13, h14⟩ := and3 h
      obtain ⟨h, h11, h12⟩ := and3 h
      obtain ⟨h, h9, h10⟩ := and3 h
      obtain ⟨h, h7, h8⟩ := and3 h
      obtain ⟨h, h5, h6⟩ := and3 h
      obtain ⟨h, h3, h4⟩ := and3 h
      obtain ⟨h1, h2⟩ := and2 h
      have own3 : ∀ i ∈ tgIds t, i ∈ own := fun i hi => of_decide_eq_true (List.all_eq_true.mp h3 i hi)
      have own4 : ∀ i ∈ own1, i ∈ own := fun i hi => of_decide_eq_true (List.all_eq_true.mp h8 i hi)
      have own5 : ∀ i ∈ tgIds t1, i ∈ own1 := fun i hi => of_decide_eq_true (List.all_eq_true.mp h9 i hi)
      exact .val (PE.imp (s_comp2 c h1 (of_decide_eq_true h2) own4 (chkI_fold (and2 h4).2) (chkI_fold (and2 h10).2) (sI it c (and2 h4).2 (itm_tg (and2 h4).1 h5)) (fun X' c' => s_tgt c' h5) (fun X' c' => sTs ifs c' h7 (of_decide_eq_true h6))
        (fun X' c' => sI it1 c' (and2 h10).2 (itm_tg (and2 h10).1 h11)) (fun X' c' => s_tgt c' h11) (fun X' c' => sTs ifs1 c' h13 (of_decide_eq_true h12)) fun X' c' => (sE elt c' h14).pe) (lc2_te own3 own5)) rfl
    · cases h
  | .varw i, Γ, Wx, X, e, c, h => s_varw c h
  | .tupz a, Γ, Wx, X, e, c, h => by
    unfold chkE at h
    split at h
    · obtain ⟨h1, h2, h3⟩ := and3 h
      obtain rfl := of_decide_eq_true h1
      exact .val (s_tupz c h2 (sE a c h3).pe (chkE_pl G h3)) rfl
    · cases h
  | .dictz fl a, Γ, Wx, X, e, c, h => by
    unfold chkE at h
    split at h
    · obtain ⟨h1, h2, h3⟩ := and3 h
      obtain rfl := of_decide_eq_true h1
      exact .val (s_dictz c h2 (sE a c h3).pe (chkE_pl G h3)) rfl
    · cases h
  | .inv a o, Γ, Wx, X, e, c, h => by
    unfold chkE at h
    split at h
    · obtain ⟨h, h5, h6⟩ := and3 h
      obtain ⟨h, h3, h4⟩ := and3 h
      obtain ⟨h1, h2⟩ := and2 h
      obtain rfl := of_decide_eq_true h1
      obtain rfl := of_decide_eq_true h2
      exact s_inv c (sE a c h5).pe (sE o c h6).pe h3 h4
    · cases h
theorem sA : ∀ (as : IA) {Γ : Gm} {Wx : XK} {X : Cx} {es : List Expr}, Cok G P Φ fA ca Γ k Wx X → chkA G as Γ es = true → PA X es (rdA P Φ ca Wx X as)
  | .nil, Γ, Wx, X, es, c, h => by
    unfold chkA at h
    split at h
    · exact s_nil
    · cases h
  | .cons a r, Γ, Wx, X, es, c, h => by
    unfold chkA at h
    split at h
    · obtain ⟨h1, h2⟩ := and2 h
      exact s_cons (sE a c h1).pe (sA r c h2) (chkE_pl G h1)
    · cases h
theorem sTs : ∀ (as : IA) {Γ : Gm} {Wx : XK} {X : Cx} {es : List Expr}, Cok G P Φ fA ca Γ k Wx X → chkA G as Γ es = true → es.length < 2 → PTs X es (tIfs P Φ ca Wx X as)
  | .nil, Γ, Wx, X, es, c, h, hl => by
    unfold chkA at h
    split at h
    · refine PTs.imp pts_nil ?_
      rintro σ H Q ⟨n, ρ, S, ε, Q0, E0, ok, er, w, kt, xr⟩
      exact kt _ _ _ _ _ Le.refl ok w
    · cases h
  | .cons a r, Γ, Wx, X, es, c, h, hl => by
    unfold chkA at h
    split at h
    · rename_i e es
      obtain ⟨h1, h2⟩ := and2 h
      cases es with
      | nil => exact PTs.imp (pts_one (sE a c h1).pt) fun σ H Q q => q
      | cons e2 es => exact absurd hl (by simp)
    · cases h
theorem sI : ∀ (it : II) {Γ : Gm} {Wx : XK} {X : Cx} {tg e : Expr}, Cok G P Φ fA ca Γ k Wx X → chkI G it Γ e = true → (∀ a, it = .itms a → ∃ es kk p, tg = .Tuple es kk p) → PI X tg e (rdI P Φ ca Wx X it)
  | .vals a, Γ, Wx, X, tg, e, c, h, _ => by
    unfold chkI at h
    split at h
    · obtain ⟨h, h3, h4⟩ := and3 h
      obtain ⟨h1, h2⟩ := and2 h
      obtain rfl := of_decide_eq_true h1
      exact s_vals (sE a c h4).pe (attrB_base h2 _ _) h3
    · cases h
  | .itms a, Γ, Wx, X, tg, e, c, h, ht => by
    obtain ⟨es, kk, p, rfl⟩ := ht a rfl
    unfold chkI at h
    split at h
    · obtain ⟨h, h3, h4⟩ := and3 h
      obtain ⟨h1, h2⟩ := and2 h
      obtain rfl := of_decide_eq_true h1
      exact s_itms (sE a c h4).pe (attrB_base h2 _ _) h3
    · cases h
  | .ex a, Γ, Wx, X, tg, e, c, h, _ => s_ex (sE a c (show chkE G a Γ e = true from h)).pe
  | .rng1 a, Γ, Wx, X, tg, e, c, h, _ => by
    unfold chkI at h
    split at h
    · obtain ⟨h1, h2, h3⟩ := and3 h
      obtain rfl := of_decide_eq_true h1
      exact s_rng1 c h2 (sE a c h3).pe (chkE_pl G h3)
    · cases h
  | .rng2 a b, Γ, Wx, X, tg, e, c, h, _ => by
    unfold chkI at h
    split at h
    · obtain ⟨h, h3, h4⟩ := and3 h
      obtain ⟨h1, h2⟩ := and2 h
      obtain rfl := of_decide_eq_true h1
      exact s_rng2 c h2 (sE a c h3).pe (chkE_pl G h3) (sE b c h4).pe (chkE_pl G h4)
    · cases h
end
end
end TH
namespace TH
open PySem PySem.Spec PyProof.Rows L2
/-! ### statements: the check -/
def nonC : Expr → Bool
  | .ListComp _ _ _ _ => false
  | .SetComp _ _ _ _ => false
  | .DictComp _ _ _ _ _ => false
  | _ => true
def nonT : Expr → Bool
  | .Tuple _ _ _ => false
  | .List _ _ => false
  | _ => true
def fnK (sc : Scope) : Bool := match sc.kind with
  | .function => true
  | _ => false
def celB (sc : Scope) (x : Str) : Bool := match sc.names.lookup x with
  | some .cell => true
  | _ => false
/-- the scope of a comprehension that is assigned to a local on one line -/
def swB (Γ : Gm) (x : Str) (px : Pos) : Expr → Bool
  | .ListComp _ _ scope p => (px.line == p.line) && !(scope.names.any fun (n, k) => n == x && (k == .local || k == .cell))
  | .DictComp _ _ _ scope p => (px.line == p.line) && !(scope.names.any fun (n, k) => n == x && (k == .local || k == .cell))
  | _ => false
section
variable (G : Sg)
mutual
def chkS : IS → Gm → Stmt → Bool
  | .expr e, Γ, s => match s with
    | .Expr x _ => nonC x && chkE G e Γ x
    | _ => false
  | .asg t e, Γ, s => match s with
    | .Assign [.Name y py] x _ => chkT Γ t (.Name y py) && chkE G e Γ x && (nonC x || (locB Γ.sc y && fnK Γ.sc && swB Γ y py x) || celB Γ.sc y)
    | .Assign [.Tuple ts j p] x _ => chkT Γ t (.Tuple ts j p) && chkE G e Γ x && (nonC x && nonT x)
    | _ => false
  | .sub o k e, Γ, s => match s with
    | .Assign [.Subscript x y _] z _ => chkE G o Γ x && chkE G k Γ y && chkE G e Γ z
    | _ => false
  | .if_ c a b, Γ, s => match s with
    | .If x y z _ => chkE G c Γ x && chkSs a Γ y && chkSs b Γ z
    | _ => false
  | .for_ t it body, Γ, s => match s with
    | .For tg x y [] _ => chkT Γ t tg && (itmT it t && chkI G it Γ x) && chkSs body Γ y
    | _ => false
  | .while_ c body, Γ, s => match s with
    | .While x y [] _ => chkE G c Γ x && chkSs body Γ y
    | _ => false
  | .brk, _, s => match s with
    | .Break _ => true
    | _ => false
  | .ret e, Γ, s => match s with
    | .Return (some x) _ => chkE G e Γ x
    | _ => false
  | .retN, _, s => match s with
    | .Return none _ => true
    | _ => false
  | .pass, _, s => match s with
    | .Pass _ => true
    | _ => false
  | .nev, _, _ => true
  | .raise _, _, _ => false
def chkSs : ISs → Gm → List Stmt → Bool
  | .nil, _, ss => match ss with
    | [] => true
    | _ => false
  | .cons a r, Γ, ss => match ss with
    | s :: ss => chkS a Γ s && chkSs r Γ ss
    | _ => false
end
end
theorem nonC_sw {x : Expr} (h : nonC x = true) (t : Option Expr) (l : Nat) (env : PySem.Env) : swapsWith x t l env = pure false := by
  cases x <;> first | rfl | exact absurd h Bool.false_ne_true
theorem cel_sw {x : Expr} {y : Str} {py : Pos} {l : Nat} {env : PySem.Env} (h : env.scope.names.lookup y = some .cell) : swapsWith x (some (.Name y py)) l env = pure false := by
  have ky : env.kindOf y = some .cell := h
  have e : ((some NameKind.cell : Option NameKind) == some .local) = false := rfl
  cases x <;> first
    | rfl
    | (unfold swapsWith
       simp only [ky, e, Bool.and_false, Bool.false_and]
       try rfl)
theorem nonT_st {x : Expr} (h : nonT x = true) (t : List Expr) (env : PySem.Env) : swappedStores t x env = pure none := by
  unfold swappedStores
  split
  · rename_i heq
    split at heq
    · exact absurd h Bool.false_ne_true
    · exact absurd h Bool.false_ne_true
    · cases heq
  · rfl
theorem pl_sub {o i : Expr} {pos : Pos} (h : plX i = true) (env : PySem.Env) (v : Value) : assign (.Subscript o i pos) env v = (do
    let ov ← holding [v] (eval o env)
    let iv ← holding [v, ov] (eval i env)
    standAt pos
    holding [v, ov, iv] (setItem ov iv v)
    release [v, ov, iv] []) := by
  cases i <;> first | rfl | exact absurd h Bool.false_ne_true
section
variable {X : Cx}
/-- name = {..} on one line, the name a local -/
theorem ps_setDc {i : Nat} {y : Str} {py : Pos} {kx vx tg iter : Expr} {ifs : List Expr} {scope : Scope} {own : List (Str × Nat)} {pos spos : Pos} {wi : TI} {g : TG} {tt : TT} {tk te : TE} (hc : X.calm = true) (hN : X.N.Nodup) (hy : X.N[i]? = some y) (hyl : X.env.scope.names.lookup y = some .local)
    (hsw : swapsWith (.DictComp kx vx [⟨tg, iter, ifs, 0⟩] scope pos) (some (.Name y py)) spos.line X.env = pure true) (hi : PI X tg iter wi) (ok : BlkOk X.N X.env.scope scope own)
    (hg : ∀ (s : Shared) (H : Hp) (C : Addr) (cl : List (Str × Addr)) (fp : List Addr), PG (X.blk s H scope (compEnvC scope cl C X.env) fp) tg g) (ht : ∀ (s : Shared) (H : Hp) (C : Addr) (cl : List (Str × Addr)) (fp : List Addr), PTs (X.blk s H scope (compEnvC scope cl C X.env) fp) ifs tt)
    (hk : ∀ (s : Shared) (H : Hp) (C : Addr) (cl : List (Str × Addr)) (fp : List Addr), PE (X.blk s H scope (compEnvC scope cl C X.env) fp) kx tk)
    (he : ∀ (s : Shared) (H : Hp) (C : Addr) (cl : List (Str × Addr)) (fp : List Addr), PE (X.blk s H scope (compEnvC scope cl C X.env) fp) vx te) (hs : ∀ x, foldedSetIterable iter X.env x = pure x) :
    PS X (.Assign [.Name y py] (.DictComp kx vx [⟨tg, iter, ifs, 0⟩] scope pos) spos) (tAsg (tDc wi g tt tk te (own.map (·.2))) (gName i)) := by
  refine ⟨fun pins s σ H D I h => ?_⟩
  rw [exec_Assign_Name_used _ _ _ _ hsw]
  refine wpAny_bind (wpAny_standAt (wpAny_bind ?_))
  show wpAny _ X.A (do let _ ← comprehension (.DictComp kx vx [⟨tg, iter, ifs, 0⟩] scope pos) scope X.env (firstIterPos [⟨tg, iter, ifs, 0⟩] pos) newDict false (eval iter X.env) (some (assign (.Name y py) X.env))) _ _ s
  have h : tDc wi g tt tk te (own.map (·.2)) σ H (fun x H1 => gName i x σ H1 D.nx) := h
  refine wpAny_bind (thn (dc_core (Qf := fun _ s' => SP X pins D .next s') hc hN I hi ok hg ht hk he hs h fun L C s' m H' I' q hn f => ?_) fun _ s' hq => wpAny_pure (wpAny_pure hq))
  show wpAny _ _ (assign (.Name y py) X.env (.ref L)) _ _ _
  refine wpAny_assign_Name (store_ok2 (v := V.ref L) I' hN hy (.inl hyl) rfl (fun s2 I2 ⟨a, sb, ha⟩ => ?_) (.inr hyl))
  obtain ⟨f0, f1, f2, f3, f4, f5⟩ := f
  have haC : C ≠ a := by
    rcases ha with z | z
    · rw [z]; exact f1
    · exact fun e => f4 y a z e.symm
  refine ⟨m, hn.sameBut sb haC, fun h3 sb3 => ?_⟩
  exact ⟨_, H', I2.turned (t' := s2.toks) (fun b o hb e => (sb3.2 b hb).trans e) f0 f1 f3 f4 f5, q⟩
theorem sw_trueD {kx vx : Expr} {gs : List Comprehension} {scope : Scope} {pos py : Pos} {y : Str} {l : Nat} {env : PySem.Env} (hk : env.scope.kind = .function) (hy : env.scope.names.lookup y = some .local) (hl : (py.line == pos.line) = true)
    (ha : (scope.names.any fun (n, k) => n == y && (k == .local || k == .cell)) = false) : swapsWith (.DictComp kx vx gs scope pos) (some (.Name y py)) l env = pure true := by
  have ky : env.kindOf y = some .local := hy
  have hb : env.blockKind = .function := by unfold Env.blockKind; rw [hk]; rfl
  unfold swapsWith
  simp only [hb, ky, ha, Expr.pos, hl]
  rfl
end
/-! ### readings -/
structure EnR (ca : Nat → Value) (K : PySem.W.Frag) (Wx : XK) (n : Nat) (ρ : Rho) (S : Sto) (H : Hp) (N : En) (D : Ends) : Prop where
  nx : ∀ ε' σ' S' n' ρ' H', Le K n ρ S H n' ρ' S' H' → Ok K n' ρ' S' H' → EnvR K n' ρ' S' H' ε' σ' → N.nx ε' S' → D.nx σ' H'
  rt : ∀ d S' n' ρ' H' v, Le K n ρ S H n' ρ' S' H' → Ok K n' ρ' S' H' → Rp K n' ρ' S' H' d v → N.rt d S' → D.rt v H'
  bk : ∀ ε' σ' S' n' ρ' H', Le K n ρ S H n' ρ' S' H' → Ok K n' ρ' S' H' → EnvR K n' ρ' S' H' ε' σ' → N.bk ε' S' → D.bk σ' H'
  ct : ∀ ε' σ' S' n' ρ' H', Le K n ρ S H n' ρ' S' H' → Ok K n' ρ' S' H' → EnvR K n' ρ' S' H' ε' σ' → N.ct ε' S' → D.ct σ' H'
  ex : ∀ ε' c S' n' ρ' H', Le K n ρ S H n' ρ' S' H' → Ok K n' ρ' S' H' → N.ex c [] ε' S' → Wx (ca c) none H'
section
variable {G : Sg} {P : Prog} {Φ : FnSem} {fA : Nat → Addr} {ca : Nat → Value} {Γ : Gm} {k : Nat} {Wx : XK} {X : Cx}
theorem EnR.mono {K : PySem.W.Frag} {n n' : Nat} {ρ ρ' : Rho} {S S' : Sto} {H H' : Hp} {N : En} {D : Ends} (e : EnR ca K Wx n ρ S H N D) (l : Le K n ρ S H n' ρ' S' H') : EnR ca K Wx n' ρ' S' H' N D :=
  ⟨fun a b c d f g h => e.nx a b c d f g (l.trans h), fun a b c d f g h => e.rt a b c d f g (l.trans h), fun a b c d f g h => e.bk a b c d f g (l.trans h), fun a b c d f g h => e.ct a b c d f g (l.trans h), fun a b c d f g h => e.ex a b c d f g (l.trans h)⟩
theorem EnR.xr {K : PySem.W.Frag} {n : Nat} {ρ : Rho} {S : Sto} {H : Hp} {N : En} {D : Ends} (e : EnR ca K Wx n ρ S H N D) (ε : Env) : XR ca K n ρ S H (fun c l S1 => N.ex c l ε S1) Wx :=
  fun c S' n' ρ' H' l o h => e.ex ε c S' n' ρ' H' l o h
variable (P Φ ca Wx X) in
def rdS (ir : IS) : TS := fun D σ H => ∃ n ρ S ε N, Ok X.K n ρ S H ∧ EnvR X.K n ρ S H ε σ ∧ wpS P Φ ir ε S N ∧ EnR ca X.K Wx n ρ S H N D
variable (P Φ ca Wx X) in
def rdSs (ir : ISs) : TS := fun D σ H => ∃ n ρ S ε N, Ok X.K n ρ S H ∧ EnvR X.K n ρ S H ε σ ∧ wpSs P Φ ir ε S N ∧ EnR ca X.K Wx n ρ S H N D
theorem PS.imp {s : Stmt} {t t' : TS} (h : PS X s t) (i : ∀ D σ H, t' D σ H → t D σ H) : PS X s t' := ⟨fun pins s σ H D I q => h.run pins s σ H D I (i _ _ _ q)⟩
theorem PSs.imp {s : List Stmt} {t t' : TS} (h : PSs X s t) (i : ∀ D σ H, t' D σ H → t D σ H) : PSs X s t' := ⟨fun pins s σ H D I q => h.run pins s σ H D I (i _ _ _ q)⟩
theorem st_expr {e : IE} {x : Expr} {pos : Pos} (h : nonC x = true) (he : PE X x ((rdE P Φ ca Wx X) e)) : PS X (.Expr x pos) ((rdS P Φ ca Wx X) (.expr e)) := by
  refine PS.imp (ps_expr he (nonC_sw h _ _ _)) ?_
  rintro D σ H ⟨n, ρ, S, ε, N, ok, er, w, en⟩
  exact rdE_go ok er w (en.xr ε) fun d S' n' ρ' H' v le ok' er' xr' r q => en.nx _ _ _ _ _ _ le ok' er' q
theorem asg_te {t : Tgt} {e : IE} : ∀ D σ H, (rdS P Φ ca Wx X) (.asg t e) D σ H → tAsg ((rdE P Φ ca Wx X) e) (rdG X t) D σ H := by
  rintro D σ H ⟨n, ρ, S, ε, N, ok, er, w, en⟩
  refine rdE_go ok er w (en.xr ε) fun d S' n' ρ' H' v le ok' er' xr' r q => ?_
  exact ⟨n', ρ', S', ε, d, _, ok', er', r, q, fun ε' σ' e' _ z => en.nx _ _ _ _ _ _ le ok' e' z⟩
theorem st_asg {t : Tgt} {e : IE} {tg x : Expr} {pos : Pos} (h : swapsWith x (some tg) pos.line X.env = pure false) (hw : swappedStores [tg] x X.env = pure none) (h1 : (assignEach [tg] X.env).map (·.2) = [assign tg X.env]) (he : PE X x ((rdE P Φ ca Wx X) e)) (hg : PG X tg (rdG X t)) : PS X (.Assign [tg] x pos) ((rdS P Φ ca Wx X) (.asg t e)) :=
  PS.imp (ps_asg he hg h hw h1) asg_te
/-- o[i] = v, whatever the object -/
def bSet (X : Cx) : TSet := fun o i v H Q => ∀ (pins : List (Addr × Obj)) (s : Shared) (σ : L2.St) (ov iv u : Value), Inv X pins σ H s → RelV o ov → RelV i iv → RelV v u → wpAny (model X.prog X.w) X.A (setItem ov iv u) (fun _ s' => ∃ H', Inv X pins σ H' s' ∧ Q H') X.xe s
theorem set_best : PSet X (bSet X) := fun pins s σ _ _ _ _ ov iv u _ I ro ri rv h => h pins s σ ov iv u I ro ri rv
theorem subR_ok (hu : X.A.units + 70 < cLine) {n : Nat} {ρ : Rho} {S : Sto} {H : Hp} {x y d : D} {vx vy v : V} {Q : Sto → Prop} {R : Hp → Prop} (ok : Ok X.K n ρ S H) (rx : Rp X.K n ρ S H x vx) (ry : Rp X.K n ρ S H y vy) (rd : Rp X.K n ρ S H d v) (h : subR x y d S Q)
    (kk : ∀ S' H', Le X.K n ρ S H n ρ S' H' → Ok X.K n ρ S' H' → Q S' → R H') : bSet X vx vy v H R := by
  unfold subR at h
  split at h
  · rename_i m
    split at h
    · rename_i l e
      split at h
      · rename_i i
        split at h
        · rename_i j ej
          cases rx
          cases ry
          obtain ⟨_, z, us, hv, rl⟩ := ok.ob _ _ e
          have l1 : Le X.K n ρ S H n ρ (S.set m (.lst (l.set j d))) (upd H (ρ m) (.lst (us.set j v))) := Le.write ok e rfl rfl hv (nt_lst hv) (fun ob w z => by cases z)
          intro pins s σ ov iv u I ro ri rv
          refine set_list pins s σ H _ _ _ ov iv u R I ro ri rv ⟨_, us, i, j, rfl, rfl, hv, by rw [← rl.length]; exact ej, ?_⟩
          refine kk _ _ l1 (Ok.write ok e rfl rfl hv (nt_lst hv) (fun ob w z => by cases z) ⟨by rw [List.length_set]; exact z, _, upd_same, ?_⟩) h
          exact RpL.set (rd.mono l1) j (rl.mono l1)
        · exact h.elim
      · exact h.elim
    · rename_i l e
      obtain ⟨hk, hz, h⟩ := h
      cases rx
      obtain ⟨k, rfl, rfl⟩ := kS_key hk ry
      obtain ⟨_, ks, ds, vs, a1, a2, a3, a4, a5, a6, a7⟩ := ok.ob _ _ e
      have a7 : H (ρ m) = some (.dK (ks.zip vs)) := a7
      have el := a6.length
      have nt : ∀ xs, ¬ Rd H (ρ m) (.tup xs) := fun xs r => by
        rcases r with r | ⟨o, r⟩
        · rw [a7] at r; cases r
        · rw [a7] at r; cases r
      obtain ⟨ks', ds', vs', b1, b2, b3, b4, b5, b6, b7, b8⟩ := put_zip ry rd a3 a2 a5 a6
      have l1 : Le X.K n ρ S H n ρ (S.set m (.dic (putKD (kD k) d l) false)) (upd H (ρ m) (.dK (putK (ks.zip vs) k v))) := Le.write ok e rfl rfl a7 nt (fun ob w z => by cases z)
      have hlz : l.length = ks.length := by rw [a1, List.length_zip, List.length_map, ← a2, Nat.min_self]
      have hz' : ks.length < 16777216 := by rw [← hlz]; exact hz
      intro pins s σ ov iv u I ro ri rv
      cases ro
      refine d_setItem (by omega) I (DPut.k (k := k) a7 (by rw [List.length_zip, ← el, ← a2, Nat.min_self]; exact hz')) ri rv fun s' I' => ⟨_, I', ?_⟩
      refine kk _ _ l1 (Ok.write ok e rfl rfl a7 nt (fun ob w z => by cases z) ⟨ks', ds', vs', by rw [a1, b5], b2, b1, by show ks'.length ≤ 16777216; omega, b3.mono l1, b4.mono l1, by rw [upd_same, b6]⟩) h
    · exact h.elim
  · exact h.elim
theorem st_sub (c : Cok G P Φ fA ca Γ k Wx X) {o kk e : IE} {x y z : Expr} {pos p2 : Pos} (hp : plX y = true) (ho : PE X x ((rdE P Φ ca Wx X) o)) (hk : PE X y ((rdE P Φ ca Wx X) kk)) (he : PE X z ((rdE P Φ ca Wx X) e)) : PS X (.Assign [.Subscript x y p2] z pos) ((rdS P Φ ca Wx X) (.sub o kk e)) := by
  refine PS.imp (ps_asg he (pg_sub ho hk set_best (fun v => pl_sub hp _ v)) (by show swapsWith z (some (.Subscript x y p2)) pos.line X.env = pure false; cases z <;> rfl) (by rfl) (by rfl)) ?_
  rintro D σ H ⟨n, ρ, S, ε, N, ok, er, w, en⟩
  refine rdE_go ok er w (en.xr ε) fun d S1 n1 ρ1 H1 v le1 ok1 er1 xr1 r w => ?_
  refine rdE_go ok1 er1 w xr1 fun a S2 n2 ρ2 H2 va le2 ok2 er2 xr2 ra w => ?_
  refine rdE_go ok2 er2 w xr2 fun b S3 n3 ρ3 H3 vb le3 ok3 er3 xr3 rb w => ?_
  exact subR_ok c.hu ok3 (ra.mono le3) rb ((r.mono le2).mono le3) w fun S' H' l4 ok4 q => en.nx _ _ _ _ _ _ (((le1.trans le2).trans le3).trans l4) ok4 (er3.mono l4) q
theorem st_if {c : IE} {a b : ISs} {x : Expr} {y z : List Stmt} {pos : Pos} (hc : PT X x ((rdT P Φ ca Wx X) c)) (ha : PSs X y ((rdSs P Φ ca Wx X) a)) (hb : PSs X z ((rdSs P Φ ca Wx X) b)) : PS X (.If x y z pos) ((rdS P Φ ca Wx X) (.if_ c a b)) := by
  refine PS.imp (ps_if hc ha hb) ?_
  rintro D σ H ⟨n, ρ, S, ε, N, ok, er, w, en⟩
  refine rdT_go ok er w (en.xr ε) fun d S1 n1 ρ1 H1 le1 ok1 er1 xr1 w => ?_
  cases d with
  | true => exact ⟨_, _, _, _, _, ok1, er1, w, en.mono le1⟩
  | false => exact ⟨_, _, _, _, _, ok1, er1, w, en.mono le1⟩
theorem st_ret {e : IE} {x : Expr} {pos : Pos} (he : PE X x ((rdE P Φ ca Wx X) e)) : PS X (.Return (some x) pos) ((rdS P Φ ca Wx X) (.ret e)) := by
  refine PS.imp (ps_ret he) ?_
  rintro D σ H ⟨n, ρ, S, ε, N, ok, er, w, en⟩
  exact rdE_go ok er w (en.xr ε) fun d S' n' ρ' H' v le ok' er' xr' r q => en.rt _ _ _ _ _ _ le ok' r q
theorem st_retN {pos : Pos} : PS X (.Return none pos) ((rdS P Φ ca Wx X) .retN) :=
  PS.imp ps_retN fun D σ H ⟨n, ρ, S, ε, N, ok, er, w, en⟩ => en.rt _ _ _ _ _ _ Le.refl ok .non w
theorem st_pass {pos : Pos} : PS X (.Pass pos) ((rdS P Φ ca Wx X) .pass) :=
  PS.imp ps_pass fun D σ H ⟨n, ρ, S, ε, N, ok, er, w, en⟩ => en.nx _ _ _ _ _ _ Le.refl ok er w
theorem st_brk {pos : Pos} : PS X (.Break pos) ((rdS P Φ ca Wx X) .brk) :=
  PS.imp ps_break fun D σ H ⟨n, ρ, S, ε, N, ok, er, w, en⟩ => en.bk _ _ _ _ _ _ Le.refl ok er w
theorem st_nev {s : Stmt} : PS X s ((rdS P Φ ca Wx X) .nev) :=
  PS.imp ps_never fun D σ H ⟨n, ρ, S, ε, N, ok, er, w, en⟩ => w
theorem st_nil : PSs X [] ((rdSs P Φ ca Wx X) .nil) :=
  PSs.imp pss_nil fun D σ H ⟨n, ρ, S, ε, N, ok, er, w, en⟩ => en.nx _ _ _ _ _ _ Le.refl ok er w
theorem st_cons {a : IS} {r : ISs} {s : Stmt} {ss : List Stmt} (ha : PS X s ((rdS P Φ ca Wx X) a)) (hr : PSs X ss ((rdSs P Φ ca Wx X) r)) : PSs X (s :: ss) ((rdSs P Φ ca Wx X) (.cons a r)) := by
  refine PSs.imp (pss_cons ha hr) ?_
  rintro D σ H ⟨n, ρ, S, ε, N, ok, er, w, en⟩
  exact ⟨n, ρ, S, ε, _, ok, er, w, fun ε' σ' S' n' ρ' H' le ok' er' q => ⟨_, _, _, _, _, ok', er', q, en.mono le⟩, en.rt, en.bk, en.ct, en.ex⟩
theorem st_for (c : Cok G P Φ fA ca Γ k Wx X) (hp : PassesOwn (model X.prog X.w) X.A X.env X.xe) {t : Tgt} {it : II} {body : ISs} {tg x : Expr} {y : List Stmt} {pos : Pos} (hf : ∀ env v, foldedSetIterable x env v = pure v) (hg : PG X tg (rdG X t)) (hi : PI X tg x ((rdI P Φ ca Wx X) it)) (hb : PSs X y ((rdSs P Φ ca Wx X) body)) : PS X (.For tg x y [] pos) ((rdS P Φ ca Wx X) (.for_ t it body)) := by
  refine PS.imp (ps_for hp c.calm hi hg hb (hf _)) ?_
  rintro D σ H ⟨n, ρ, S, ε, N, ok, er, w, en⟩
  refine ⟨n, ρ, S, ε, _, _, ok, er, w, fun w S1 n1 ρ1 H1 J le1 ok1 wk hz cl => ?_, en.xr ε⟩
  have er1 := er.mono le1
  have en1 := en.mono le1
  obtain ⟨items, src⟩ := w
  generalize hst : (fun x ε1 S2 (kk : Env → Sto → Prop) => asgT t x ε1 fun ε2 => wpSs P Φ body ε2 S2 { N with nx := kk, ct := kk, bk := N.nx }) = step at cl
  have wk : WkR X.K n1 ρ1 S1 H1 ⟨items, src⟩ J := wk
  have cl : walkL (Wk.still ⟨items, src⟩) step N.nx items ε S1 := cl
  refine ⟨fun i m σ2 H2 => m = items.length - i ∧ i ≤ items.length ∧ ∃ n2 ρ2 S2 ε2, Le X.K n1 ρ1 S1 H1 n2 ρ2 S2 H2 ∧ Ok X.K n2 ρ2 S2 H2 ∧ EnvR X.K n2 ρ2 S2 H2 ε2 σ2 ∧ walkL (Wk.still ⟨items, src⟩) step N.nx (items.drop i) ε2 S2,
    ⟨items.length, by simp, Nat.zero_le _, n1, ρ1, S1, ε, Le.refl, ok1, er1, cl⟩, ?_⟩
  rintro i m σ2 H2 ⟨hm, hi, n2, ρ2, S2, ε2, le2, ok2, er2, cl⟩
  by_cases hlt : i < items.length
  · rw [List.drop_eq_getElem_cons hlt] at cl
    obtain ⟨st, cl⟩ := cl
    obtain ⟨hgo, hy⟩ := (wk n2 ρ2 S2 H2 le2.toLe0 ok2 st i).1 hlt
    refine .inr ⟨hgo, fun σ' H' => items.length - (i + 1) = items.length - (i + 1) ∧ i + 1 ≤ items.length ∧ ∃ n2 ρ2 S2 ε2, Le X.K n1 ρ1 S1 H1 n2 ρ2 S2 H' ∧ Ok X.K n2 ρ2 S2 H' ∧ EnvR X.K n2 ρ2 S2 H' ε2 σ' ∧ walkL (Wk.still ⟨items, src⟩) step N.nx (items.drop (i + 1)) ε2 S2, fun σ' H' h => ⟨_, by omega, h⟩, fun x H' hyy => ?_⟩
    obtain ⟨le3, ok3, dd, ed, rx⟩ := hy x H' hyy
    have ed : items[i]? = some dd := ed
    rw [List.getElem?_eq_getElem hlt] at ed
    cases ed
    subst hst
    have le23 := le2.trans le3
    refine ⟨n2, ρ2, S2, ε2, _, _, ok3, er2.mono le3, rx, cl, fun ε' σ' e' u' wt => ?_⟩
    refine ⟨n2, ρ2, S2, ε', _, ok3, e', wt, ?_⟩
    exact ⟨fun ε' σ' S' n' ρ' H2 le ok er q => ⟨rfl, hlt, n', ρ', S', ε', le23.trans le, ok, er, q⟩, (en1.mono le23).rt, (en1.mono le23).nx, fun ε' σ' S' n' ρ' H2 le ok er q => ⟨rfl, hlt, n', ρ', S', ε', le23.trans le, ok, er, q⟩, (en1.mono le23).ex⟩
  · have hie : i = items.length := Nat.le_antisymm hi (Nat.le_of_not_lt hlt)
    rw [List.drop_eq_nil_of_le (Nat.le_of_not_lt hlt)] at cl
    obtain ⟨st, cl⟩ := cl
    exact .inl ⟨(wk n2 ρ2 S2 H2 le2.toLe0 ok2 st i).2 (Nat.le_of_not_lt hlt), en1.nx _ _ _ _ _ _ le2 ok2 er2 cl⟩
theorem st_while (hp : PassesOwn (model X.prog X.w) X.A X.env X.xe) {c : IE} {body : ISs} {x : Expr} {y : List Stmt} {pos : Pos} (hc : PT X x ((rdT P Φ ca Wx X) c)) (hb : PSs X y ((rdSs P Φ ca Wx X) body)) : PS X (.While x y [] pos) ((rdS P Φ ca Wx X) (.while_ c body)) := by
  refine PS.imp (ps_while hp hc hb) ?_
  rintro D σ H ⟨n, ρ, S, ε, N, ok, er, ⟨W, ⟨m0, w0⟩, turn⟩, en⟩
  refine ⟨fun m σ' H' => ∃ n' ρ' S' ε', Le X.K n ρ S H n' ρ' S' H' ∧ Ok X.K n' ρ' S' H' ∧ EnvR X.K n' ρ' S' H' ε' σ' ∧ W m ε' S', ⟨m0, n, ρ, S, ε, Le.refl, ok, er, w0⟩, ?_⟩
  rintro m σ' H' ⟨n1, ρ1, S1, ε1, le1, ok1, er1, w1⟩
  have en1 := en.mono le1
  refine rdT_go ok1 er1 (turn m ε1 S1 w1) (en1.xr ε1) fun d S2 n2 ρ2 H2 le2 ok2 er2 xr2 w => ?_
  cases d with
  | true =>
    refine ⟨fun σ' H' => ∃ m', m' < m ∧ ∃ n' ρ' S' ε', Le X.K n ρ S H n' ρ' S' H' ∧ Ok X.K n' ρ' S' H' ∧ EnvR X.K n' ρ' S' H' ε' σ' ∧ W m' ε' S', fun σ' H' h => h, n2, ρ2, S2, ε1, _, ok2, er2, w, ?_⟩
    have go : ∀ ε' σ' S' n' ρ' H', Le X.K n2 ρ2 S2 H2 n' ρ' S' H' → Ok X.K n' ρ' S' H' → EnvR X.K n' ρ' S' H' ε' σ' → (∃ m', m' < m ∧ W m' ε' S') → ∃ m', m' < m ∧ ∃ n' ρ' S' ε', Le X.K n ρ S H n' ρ' S' H' ∧ Ok X.K n' ρ' S' H' ∧ EnvR X.K n' ρ' S' H' ε' σ' ∧ W m' ε' S' :=
      fun ε' σ' S' n' ρ' H' le ok er ⟨m', hm, q⟩ => ⟨m', hm, n', ρ', S', ε', (le1.trans le2).trans le, ok, er, q⟩
    exact ⟨go, (en1.mono le2).rt, (en1.mono le2).nx, go, (en1.mono le2).ex⟩
  | false => exact en1.nx _ _ _ _ _ _ le2 ok2 er2 w
/-! ### the comprehension that is assigned -/
theorem st_asgC (c : Cok G P Φ fA ca Γ k Wx X) {t : Tgt} {e : IE} {y : Str} {py pos : Pos} {x : Expr} (ht : chkT Γ t (.Name y py) = true) (h : chkE G e Γ x = true) (hl : locB Γ.sc y = true) (hk : fnK Γ.sc = true) (hs : swB Γ y py x = true) : PS X (.Assign [.Name y py] x pos) ((rdS P Φ ca Wx X) (.asg t e)) := by
  have hl : Γ.sc.names.lookup y = some .local := by
    unfold locB at hl
    split at hl
    · assumption
    · cases hl
  have hl : X.env.scope.names.lookup y = some .local := by rw [c.sc]; exact hl
  have hk : X.env.scope.kind = .function := by
    rw [c.sc]
    unfold fnK at hk
    split at hk
    · assumption
    · cases hk
  cases t with
  | tp is => exact absurd ht Bool.false_ne_true
  | nm i =>
    obtain ⟨t1, t2⟩ := and2 (show (decide (Γ.N[i]? = some y) && stoB Γ.bk Γ.sc y) = true from ht)
    have hN : X.N[i]? = some y := by rw [c.N]; exact of_decide_eq_true t1
    have nd : X.N.Nodup := by rw [c.N]; exact c.nd
    have fin : ∀ {te : TE}, PS X (.Assign [.Name y py] x pos) (tAsg te (gName i)) → (∀ σ H Q, (rdE P Φ ca Wx X) e σ H Q → te σ H Q) → PS X (.Assign [.Name y py] x pos) ((rdS P Φ ca Wx X) (.asg (.nm i) e)) := fun {te} p imp => by
      refine PS.imp p ?_
      rintro D σ H ⟨n, ρ, S, ε, N, ok, er, w, en⟩
      refine imp _ _ _ (rdE_go ok er w (en.xr ε) fun d S' n' ρ' H' v le ok' er' xr' r q => ?_)
      exact en.nx _ _ _ _ _ _ le ok' (er'.set r) q
    unfold swB at hs
    split at hs
    · rename_i ex gs scope p
      obtain ⟨s1, s2⟩ := and2 hs
      have sw := sw_true (elt := ex) (gs := gs) (l := pos.line) hk hl s1 (nnot s2)
      cases e with
      | comp fl own t it ifs elt =>
        unfold chkE at h
        split at h
        · rename_i x tg iter cs scope p heq
          cases heq
          obtain ⟨h, h7, h8⟩ := and3 h
          obtain ⟨h, h5, h6⟩ := and3 h
          obtain ⟨h, h3, h4⟩ := and3 h
          obtain ⟨h1, h2⟩ := and2 h
          have own3 : ∀ i ∈ tgIds t, i ∈ own := fun i hi => of_decide_eq_true (List.all_eq_true.mp h3 i hi)
          have bo : BlkOk X.N X.env.scope scope (ownP Γ.N own) := by rw [c.N, c.sc]; exact blkOk_by h1
          have key := ps_setLc (py := py) (spos := pos) (g := rdG X t) (tt := tIfs P Φ ca (fun _ _ _ => False) X ifs) (te := rdE P Φ ca (fun _ _ _ => False) X elt) c.calm nd hN hl sw (sI it c (and2 h4).2 (itm_tg (and2 h4).1 h5)) bo (fun s H C cl fp => s_tgt (c.blk s H scope C cl fp) h5)
            (fun s H C cl fp => sTs ifs (c.blk s H scope C cl fp) h7 (of_decide_eq_true h6)) (fun s H C cl fp => (sE elt (c.blk s H scope C cl fp) h8).pe) (chkI_fold (and2 h4).2 X.env)
          rw [of_decide_eq_true h2] at key
          exact fin key (lc_te own3)
        · cases h
      | comp2 fl own t it ifs own1 t1 it1 ifs1 elt =>
        unfold chkE at h
        split at h
        · rename_i x tg iter cs tg1 iter1 cs1 scope p heq
          cases heq
          obtain ⟨h, h13, h14⟩ := and3 h
          obtain ⟨h, h11, h12⟩ := and3 h
          obtain ⟨h, h9, h10⟩ := and3 h
          obtain ⟨h, h7, h8⟩ := and3 h
          obtain ⟨h, h5, h6⟩ := and3 h
          obtain ⟨h, h3, h4⟩ := and3 h
          obtain ⟨h1, h2⟩ := and2 h
          have own3 : ∀ i ∈ tgIds t, i ∈ own := fun i hi => of_decide_eq_true (List.all_eq_true.mp h3 i hi)
          have own4 : ∀ i ∈ own1, i ∈ own := fun i hi => of_decide_eq_true (List.all_eq_true.mp h8 i hi)
          have own5 : ∀ i ∈ tgIds t1, i ∈ own1 := fun i hi => of_decide_eq_true (List.all_eq_true.mp h9 i hi)
          have bo : BlkOk X.N X.env.scope scope (ownP Γ.N own) := by rw [c.N, c.sc]; exact blkOk_by h1
          have key := ps_setLc2 (py := py) (spos := pos) (vs1 := own1) (g := rdG X t) (tt := tIfs P Φ ca (fun _ _ _ => False) X ifs) (wi1 := rdI P Φ ca (fun _ _ _ => False) X it1) (g1 := rdG X t1) (tt1 := tIfs P Φ ca (fun _ _ _ => False) X ifs1) (te := rdE P Φ ca (fun _ _ _ => False) X elt) c.calm nd hN hl sw (sI it c (and2 h4).2 (itm_tg (and2 h4).1 h5)) bo (by rw [of_decide_eq_true h2]; exact own4)
            (fun s H C cl fp => s_tgt (c.blk s H scope C cl fp) h5) (fun s H C cl fp => sTs ifs (c.blk s H scope C cl fp) h7 (of_decide_eq_true h6)) (fun s H C cl fp => sI it1 (c.blk s H scope C cl fp) (and2 h10).2 (itm_tg (and2 h10).1 h11)) (fun s H C cl fp => s_tgt (c.blk s H scope C cl fp) h11)
            (fun s H C cl fp => sTs ifs1 (c.blk s H scope C cl fp) h13 (of_decide_eq_true h12)) (fun s H C cl fp => (sE elt (c.blk s H scope C cl fp) h14).pe) (chkI_fold (and2 h4).2 X.env) (chkI_fold (and2 h10).2)
          rw [of_decide_eq_true h2] at key
          exact fin key (lc2_te own3 own5)
        · cases h
      | _ => exact absurd h Bool.false_ne_true
    · rename_i kx vx gs scope p
      obtain ⟨s1, s2⟩ := and2 hs
      have sw := sw_trueD (kx := kx) (vx := vx) (gs := gs) (l := pos.line) hk hl s1 (nnot s2)
      cases e with
      | dcomp fl own t it ke ve =>
        unfold chkE at h
        split at h
        · rename_i x z tg iter scope p heq
          cases heq
          obtain ⟨h, h7, h8⟩ := and3 h
          obtain ⟨h, h5, h6⟩ := and3 h
          obtain ⟨h, h3, h4⟩ := and3 h
          obtain ⟨h1, h2⟩ := and2 h
          have own3 : ∀ i ∈ tgIds t, i ∈ own := fun i hi => of_decide_eq_true (List.all_eq_true.mp h4 i hi)
          obtain rfl := of_decide_eq_true h1
          have bo : BlkOk X.N X.env.scope scope (ownP Γ.N own) := by rw [c.N, c.sc]; exact blkOk_by h2
          have key := ps_setDc (py := py) (spos := pos) (ifs := []) (g := rdG X t) (tt := tYes) (tk := rdE P Φ ca (fun _ _ _ => False) X ke) (te := rdE P Φ ca (fun _ _ _ => False) X ve) c.calm nd hN hl sw (sI it c (and2 h5).2 (itm_tg (and2 h5).1 h6)) bo (fun s H C cl fp => s_tgt (c.blk s H scope C cl fp) h6)
            (fun s H C cl fp => pts_nil) (fun s H C cl fp => (sE ke (c.blk s H scope C cl fp) h7).pe) (fun s H C cl fp => (sE ve (c.blk s H scope C cl fp) h8).pe) (chkI_fold (and2 h5).2 X.env)
          rw [of_decide_eq_true h3] at key
          exact fin key (dc_te own3)
        · cases h
      | _ => exact absurd h Bool.false_ne_true
    · cases hs
mutual
theorem sS : ∀ (ir : IS) {Γ : Gm} {Wx : XK} {X : Cx} {s : Stmt}, Cok G P Φ fA ca Γ k Wx X → PassesOwn (model X.prog X.w) X.A X.env X.xe → chkS G ir Γ s = true → PS X s (rdS P Φ ca Wx X ir)
  | .expr e, Γ, Wx, X, s, c, po, h => by
    unfold chkS at h
    split at h
    · obtain ⟨h1, h2⟩ := and2 h
      exact st_expr h1 (sE e c h2).pe
    · cases h
  | .asg t e, Γ, Wx, X, s, c, po, h => by
    unfold chkS at h
    split at h
    · obtain ⟨h1, h2, h3⟩ := and3 h
      rw [Bool.or_eq_true, Bool.or_eq_true] at h3
      rcases h3 with (h3 | h3) | h3
      · exact st_asg (nonC_sw h3 _ _ _) (by unfold swappedStores; rfl) rfl (sE e c h2).pe (s_tgt c h1)
      · obtain ⟨a1, a2, a3⟩ := and3 h3
        exact st_asgC c h1 h2 a1 a2 a3
      · refine st_asg (cel_sw ?_) (by unfold swappedStores; rfl) rfl (sE e c h2).pe (s_tgt c h1)
        unfold celB at h3
        split at h3
        · rw [c.sc]; assumption
        · cases h3
    · obtain ⟨h1, h2, h3⟩ := and3 h
      obtain ⟨a1, a2⟩ := and2 h3
      exact st_asg (nonC_sw a1 _ _ _) (nonT_st a2 _ _) rfl (sE e c h2).pe (s_tgt c h1)
    · cases h
  | .sub o kk e, Γ, Wx, X, s, c, po, h => by
    unfold chkS at h
    split at h
    · obtain ⟨h2, h3, h4⟩ := and3 h
      exact st_sub c (chkE_pl G h3) (sE o c h2).pe (sE kk c h3).pe (sE e c h4).pe
    · cases h
  | .if_ a b d, Γ, Wx, X, s, c, po, h => by
    unfold chkS at h
    split at h
    · obtain ⟨h1, h2, h3⟩ := and3 h
      exact st_if (sE a c h1).pt (sSs b c po h2) (sSs d c po h3)
    · cases h
  | .for_ t it body, Γ, Wx, X, s, c, po, h => by
    unfold chkS at h
    split at h
    · obtain ⟨h1, h2, h3⟩ := and3 h
      exact st_for c po (chkI_fold (and2 h2).2) (s_tgt c h1) (sI it c (and2 h2).2 (itm_tg (and2 h2).1 h1)) (sSs body c po h3)
    · cases h
  | .while_ a body, Γ, Wx, X, s, c, po, h => by
    unfold chkS at h
    split at h
    · obtain ⟨h1, h2⟩ := and2 h
      exact st_while po (sE a c h1).pt (sSs body c po h2)
    · cases h
  | .brk, Γ, Wx, X, s, c, po, h => by
    unfold chkS at h
    split at h
    · exact st_brk
    · cases h
  | .ret e, Γ, Wx, X, s, c, po, h => by
    unfold chkS at h
    split at h
    · exact st_ret (sE e c h).pe
    · cases h
  | .retN, Γ, Wx, X, s, c, po, h => by
    unfold chkS at h
    split at h
    · exact st_retN
    · cases h
  | .pass, Γ, Wx, X, s, c, po, h => by
    unfold chkS at h
    split at h
    · exact st_pass
    · cases h
  | .nev, Γ, Wx, X, s, c, po, h => st_nev
  | .raise _, Γ, Wx, X, s, c, po, h => absurd h Bool.false_ne_true
theorem sSs : ∀ (ir : ISs) {Γ : Gm} {Wx : XK} {X : Cx} {s : List Stmt}, Cok G P Φ fA ca Γ k Wx X → PassesOwn (model X.prog X.w) X.A X.env X.xe → chkSs G ir Γ s = true → PSs X s (rdSs P Φ ca Wx X ir)
  | .nil, Γ, Wx, X, s, c, po, h => by
    unfold chkSs at h
    split at h
    · exact st_nil
    · cases h
  | .cons a r, Γ, Wx, X, s, c, po, h => by
    unfold chkSs at h
    split at h
    · obtain ⟨h1, h2⟩ := and2 h
      exact st_cons (sS a c po h1) (sSs r c po h2)
    · cases h
end
end
end TH
namespace TH
open PySem PySem.Spec PyProof.Rows L2
/-! ### the entry, the end -/
theorem getV_get : ∀ {ε : Env} {i : Nat} {d : D}, getV ε i = some d → ε[i]? = some (some d)
  | [], _, _, h => by cases h
  | x :: r, 0, d, h => by have h : x = some d := h; rw [h]; rfl
  | x :: r, i + 1, d, h => getV_get (ε := r) h
theorem env_start {K : PySem.W.Frag} {n : Nat} {ρ : Rho} {S : Sto} {H : Hp} {ds : List D} {vs : List V} (r : RpL K n ρ S H ds vs) (N : List Str) (m : Nat) (hm : N.length = m) (hl : ds.length ≤ m) : EnvR K n ρ S H (startV m ds) (L2.start N vs) := by
  have el := r.length
  refine ⟨?_, fun i d h => ?_⟩
  · unfold startV L2.start
    simp only [List.length_append, List.length_map, List.length_replicate]
    omega
  · have h := getV_get h
    unfold startV at h
    by_cases hi : i < ds.length
    · rw [List.getElem?_append_left (by simpa using hi), List.getElem?_map] at h
      cases e : ds[i]? with
      | none => rw [e] at h; cases h
      | some d' =>
        rw [e] at h
        cases h
        obtain ⟨v, ev, rv⟩ := r.get e
        refine ⟨v, ?_, rv⟩
        unfold L2.start
        rw [List.getElem?_append_left (by rw [List.length_map, ← el]; exact hi), List.getElem?_map, ev]
        rfl
    · rw [List.getElem?_append_right (by simpa using hi), List.getElem?_replicate] at h
      split at h <;> cases h
theorem Fin.to {K : PySem.W.Frag} {n n' : Nat} {ρ ρ' : Rho} {S S' : Sto} {H H' : Hp} {Qd : D → Sto → Prop} {Q : VK} (kd : KD K n ρ S H Qd Q) {d : D} {v : V} (le : Le K n ρ S H n' ρ' S' H') (ok : Ok K n' ρ' S' H') (r : Rp K n' ρ' S' H' d v) (f : Fin Qd d S') : Q v H' := by
  rcases f with ⟨S2, hs, q⟩ | ⟨m, l, S2, rfl, e, hs, hn, q⟩ | ⟨m, l, lk, S2, rfl, e, hs, hn, q⟩
  · exact kd _ _ _ _ _ _ (le.trans (Le.sub hs)) (ok.sub hs) (r.mono (Le.sub hs)) q
  · cases r with
    | ref hm =>
      obtain ⟨_, z, vs, hv, rl⟩ := ok.ob _ _ e
      refine kd _ _ _ _ _ _ (le.trans (Le.sub hs)) (ok.sub hs) (.ilst hv z (fun t => ?_) (rl.mono (Le.sub hs))) q
      rcases t with t | ⟨j, o, ej, mo, rj⟩
      · exact ok.gm _ _ e rfl t
      · have := ok.inj j m o _ (hs _ _ ej) e mo rfl rj
        subst this
        rw [hn] at ej; cases ej
  · cases r with
    | ref hm =>
      obtain ⟨ks, ds, vs, a1, a2, a3, a4, a5, a6, a7⟩ := (ok.ob _ _ e).2
      have hr : Rd H' (ρ' m) (.dK (ks.zip vs)) := by
        cases lk with
        | false => exact .inl a7
        | true => exact .inr a7
      refine kd _ _ _ _ _ _ (le.trans (Le.sub hs)) (ok.sub hs) ?_ q
      rw [a1]
      refine .idic hr a4 a2 a3 (fun t => ?_) (a5.mono (Le.sub hs)) (a6.mono (Le.sub hs))
      rcases t with t | ⟨j, o, ej, mo, rj⟩
      · exact ok.gm _ _ e rfl t
      · have := ok.inj j m o _ (hs _ _ ej) e mo rfl rj
        subst this
        rw [hn] at ej; cases ej
/-! ### the program -/
structure Wok (G : Sg) (P : Prog) (fA : Nat → Addr) (K : PySem.W.Frag) (mg : Str → Option Value) : Prop where
  blt : ∀ x ∈ bltL, mg x = none
  fns : ∀ (f : Nat) (x : Str), G.fns[f]? = some x → ∃ (fn : FnDef) (nm qual : Str) (params : Arguments) (body : List Stmt) (scope : Scope) (fd : FuncData) (ps N : List Str), P.fn f = some fn ∧ mg x = some (.ref (fA f)) ∧ FunD K nm qual params body scope [] [] (fA f) fd ∧ FnScope N ps scope ∧ Binds K fd ps [] ∧ ps.length = fn.np ∧ N.length = fn.ns ∧ fn.np ≤ fn.ns ∧ chkSs G fn.body ⟨N, scope, none⟩ body = true
  css : ∀ (g : Nat) (x : Str) (d : D), G.css[g]? = some x → P.cs g = some d → ∃ v u, mg x = some u ∧ RelV v u ∧ ∀ n ρ S H, Rp K n ρ S H d v
section
variable {G : Sg} {P : Prog} {fA : Nat → Addr} {ca : Nat → Value} {K : PySem.W.Frag} {mg : Str → Option Value} {prog : Program} {w : World} {base : Heap}
theorem Phi_len {k f : Nat} {fn : FnDef} (e : P.fn f = some fn) : ∀ ds S Q E, Phi P k f ds S Q E → ds.length = fn.np := fun ds S Q E h => by
  cases k with
  | zero => exact h.elim
  | succ k =>
    have h : (match P.fn f with
      | none => False
      | some fd => ds.length = fd.np ∧ _) := h
    rw [e] at h
    exact h.1
theorem fn_all (W : Wok G P fA K mg) : ∀ (k : Nat) (f : Nat) (fn : FnDef) (x qual : Str) (params : Arguments) (body : List Stmt) (scope : Scope) (fd : FuncData) (ps N : List Str), P.fn f = some fn → FunD K x qual params body scope [] [] (fA f) fd → FnScope N ps scope → ps.length = fn.np → N.length = fn.ns → fn.np ≤ fn.ns →
    chkSs G fn.body ⟨N, scope, none⟩ body = true → FnOk prog w K mg base (L2.CX prog w) k (fA f) fd ps (spF ca K (Phi P k) f fn.np)
  | 0, f, fn, x, qual, params, body, scope, fd, ps, N, e, F, Sc, h1, h2, h3, h4 => ⟨fun vs H Q E ⟨_, _, _, _, _, _, _, _, _, z, _⟩ => z.elim, fun A outer s H args us vs Q E hr he hb hv ⟨_, _, _, _, _, _, _, _, _, z, _⟩ => z.elim⟩
  | k + 1, f, fn, x, qual, params, body, scope, fd, ps, N, e, F, Sc, h1, h2, h3, h4 => by
    refine F.ok Sc (fun vs H Q E ⟨_, _, _, ds, _, _, _, r, l, _⟩ => by rw [← r.length, l, h1]) fun cdv A outer s H vs Q E hr h => ?_
    obtain ⟨n, ρ, S, ds, Qd, Ed, ok, r, l, ph, kd, xr⟩ := h
    have ph : (match P.fn f with
      | none => False
      | some fd => ds.length = fd.np ∧ wpSs P (Phi P k) fd.body (startV fd.ns ds) S { nx := fun _ S1 => Fin Qd .non S1, rt := fun d S1 => Fin Qd d S1, ex := fun c l _ S1 => FinX Ed c l S1 }) := ph
    rw [e] at ph
    have c : Cok G P (Phi P k) fA ca ⟨N, scope, none⟩ k E (cxOf (L2.CX prog w) prog w K mg base N qual scope (fA f) cdv A outer s H E) := {
      N := rfl
      nd := Sc.nd
      sc := rfl
      calm := rfl
      room := hr
      fn := fun _ _ _ _ => .inl rfl
      tk := takes_of (E := E) (E₁ := fun e' s'' => L2.CX prog w outer H s E e' s'') rfl rfl rfl rfl
      blt := W.blt
      fns := fun f' x' hf => by
        obtain ⟨fn', nm', qual', params', body', scope', fd', ps', N', a1, a2, a3, a4, a5, a6, a7, a8, a9⟩ := W.fns f' x' hf
        exact ⟨fd', ps', fn'.np, a2, a3.kp, a5, Phi_len a1, fn_all W k f' fn' nm' qual' params' body' scope' fd' ps' N' a1 a3 a4 a6 a7 a8 a9⟩
      css := W.css }
    refine ⟨rdSs P (Phi P k) ca E _ fn.body, sSs fn.body c (passes_of rfl) h4, n, ρ, S, _, _, ok, env_start r N fn.ns h2 (by omega), ph.2, ?_⟩
    exact ⟨fun ε' σ' S' n' ρ' H' le ok' _ q => Fin.to kd le ok' .non q, fun d S' n' ρ' H' v le ok' r q => Fin.to kd le ok' r q, fun _ _ _ _ _ _ _ _ _ q => q.elim, fun _ _ _ _ _ _ _ _ _ q => q.elim,
      fun ε' c S' n' ρ' H' le ok' ⟨S2, hs, q⟩ => xr c S2 n' ρ' H' (le.trans (Le.sub hs)) (ok'.sub hs) q⟩
/-- the script -/
theorem script_ok {H : Hp} {a : Addr} {ns : List Int} (hl : ns.length ≤ SZ) (ho : Only H) (hs : SqL K H a (ns.map V.int)) : Ok K 1 ⟨fun _ => a, []⟩ (fun m => if m = 0 then some (.rol (ns.map D.int)) else none) H := by
  have rl : ∀ (n : Nat) (ρ : Rho) (S : Sto) (l : List Int), RpL K n ρ S H (l.map D.int) (l.map V.int) := fun n ρ S l => by
    induction l with
    | nil => exact .nil
    | cons i l ih => exact .cons (.int i) ih
  have fq : FqL K H a (ns.map V.int) := by
    rcases hs with (h | ⟨o, h⟩) | h
    · rcases ho a with z | ⟨o, xs, z⟩
      · rw [z] at h; cases h
      · rw [z] at h; cases h
    · exact .inl ⟨o, h⟩
    · exact .inr h
  refine ⟨fun m o e => ?_, fun m m' o o' e e' h _ _ => ?_, fun a h => (nomatch h), fun m o e h z => (nomatch z)⟩
  · split at e
    · rename_i hm
      cases e
      exact ⟨by omega, by rw [List.length_map]; exact hl, _, fq, rl _ _ _ _⟩
    · cases e
  · split at e
    · cases e; cases h
    · cases e
/-- the law's promise -/
theorem law_ok {k f : Nat} (hphi : ∀ ns : List Int, ns.length ≤ 63 → Phi P k f [.ref 0] (fun m => if m = 0 then some (.rol (ns.map D.int)) else none) (fun d _ => d = .bl true) fun _ _ _ => False) (H : Hp) (a : Addr) (ns : List Int) (hl : ns.length ≤ 63) (ho : Only H) (hs : SqL K H a (ns.map V.int)) :
    spF ca K (Phi P k) f 1 [.ref a] H (fun v _ => v = .bl true) fun _ _ _ => False := by
  refine ⟨1, ⟨fun _ => a, []⟩, _, [.ref 0], _, _, script_ok (Nat.le_trans hl (by decide)) ho hs, .cons (.ref (ρ := ⟨fun _ => a, []⟩) (m := 0) (by decide)) .nil, rfl, hphi ns hl, fun d S' n' ρ' H' v le ok' r q => ?_, fun c S' n' ρ' H' le ok' q => q.elim⟩
  have q : d = .bl true := q
  subst q
  cases r
  rfl
end
end TH
namespace TH
open PySem PySem.Spec PyProof.Rows L2
/-- .. in whatever world -/
def CXw (P : Program) : CXT := fun outer H s E u s' => ∃ w, L2.CX P w outer H s E u s'
theorem FnOk.cxw {P : Program} {w : World} {K : PySem.W.Frag} {mg : Str → Option Value} {base : Heap} {k : Nat} {f : Addr} {fd : FuncData} {ps : List Str} {sp : Sp} (F : FnOk P w K mg base (L2.CX P w) k f fd ps sp) : FnOk P w K mg base (CXw P) k f fd ps sp :=
  ⟨F.len, fun A outer s H args us vs Q E hr he hb hv hs => codeAny_mono (F.run A outer s H args us vs Q E hr he hb hv hs) fun r s' h => by
    cases r with
    | ok fl => cases fl <;> exact h
    | error e => exact ⟨w, h⟩⟩
theorem CXw.no {P : Program} {outer : List PySem.Env} {H : Hp} {s : Shared} {e : Value} {s' : Shared} (h : CXw P outer H s (fun _ _ _ => False) e s') : False := by
  obtain ⟨w, a, B, H', cls, d, _, _, _, _, _, _, _, z⟩ := h
  exact z
end TH
namespace L
open PySem TH
/-- the tags that named tells -/
def TZ (l : List D) : D := D.exc 7 l
end L
namespace L
open PySem TH
/-! ### the program, as the evaluator has it -/
def b_is_run : ISs :=
  (.cons (.ret (.and (.isi (.var 0) .str) (.and (.cmp2 .le .le (.cst (.int 1)) (.bf .len false (.cons (.var 0) .nil)) (.var 2)) (.cmp .eq (.comp false [3] (.nm 3) (.ex (.var 0)) (.cons (.cmp .nin (.var 3) (.var 1)) .nil) (.var 3)) (.lst false .nil)))))
 .nil)
def b_is_word : ISs :=
  (.cons (.ret (.call 0 (.cons (.var 0) (.cons (.glo 0) (.cons (.glo 2) .nil)))))
 .nil)
def b_is_key : ISs :=
  (.cons (.ret (.call 0 (.cons (.var 0) (.cons (.glo 0) (.cons (.glo 3) .nil)))))
 .nil)
def b_is_value : ISs :=
  (.cons (.ret (.call 0 (.cons (.var 0) (.cons (.glo 1) (.cons (.glo 3) .nil)))))
 .nil)
def b_are_rising : ISs :=
  (.cons (.ret (.cmp .eq (.comp false [1] (.nm 1) (.rng2 (.cst (.int 1)) (.bf .len false (.cons (.var 0) .nil))) (.cons (.cmp .ge (.idx (.var 0) (.bin .sub false (.var 1) (.cst (.int 1)))) (.idx (.var 0) (.var 1))) .nil) (.var 1)) (.lst false .nil)))
 .nil)
def b_are_tags : ISs :=
  (.cons (.if_ (.or (.not (.isi (.var 0) .tuple)) (.cmp .gt (.bf .len false (.cons (.var 0) .nil)) (.glo 4)))
   (.cons (.ret (.cst (.bl false)))
   .nil)
   .nil)
 (.cons (.for_ (.nm 1) (.ex (.var 0))
   (.cons (.if_ (.or (.not (.isi (.var 1) .tuple)) (.or (.cmp .ne (.bf .len false (.cons (.var 1) .nil)) (.cst (.int 2))) (.or (.not (.call 2 (.cons (.idx (.var 1) (.cst (.int 0))) .nil))) (.not (.call 3 (.cons (.idx (.var 1) (.cst (.int 1))) .nil))))))
     (.cons (.ret (.cst (.bl false)))
     .nil)
     .nil)
   .nil))
 (.cons (.ret (.call 4 (.cons (.comp false [2, 3] (.tp [2, 3]) (.ex (.var 0)) .nil (.var 2)) .nil)))
 .nil)))
def b_is_name : ISs :=
  (.cons (.ret (.and (.isi (.var 0) .tuple) (.and (.cmp .eq (.bf .len false (.cons (.var 0) .nil)) (.cst (.int 2))) (.and (.call 1 (.cons (.idx (.var 0) (.cst (.int 0))) .nil)) (.call 5 (.cons (.idx (.var 0) (.cst (.int 1))) .nil))))))
 .nil)
def b_need_name : ISs :=
  (.cons (.if_ (.not (.call 6 (.cons (.var 0) .nil)))
   (.cons .nev
   .nil)
   .nil)
 .nil)
def b_is_condition : ISs :=
  (.cons (.if_ (.or (.not (.isi (.var 0) .tuple)) (.or (.cmp .ne (.bf .len false (.cons (.var 0) .nil)) (.cst (.int 3))) (.not (.call 2 (.cons (.idx (.var 0) (.cst (.int 0))) .nil)))))
   (.cons (.ret (.cst (.bl false)))
   .nil)
   .nil)
 (.cons (.if_ (.or (.not (.isi (.idx (.var 0) (.cst (.int 1))) .str)) (.cmp .nin (.idx (.var 0) (.cst (.int 1))) (.tup (.cons (.cst (.str "in")) (.cons (.cst (.str "out")) .nil)))))
   (.cons (.ret (.cst (.bl false)))
   .nil)
   .nil)
 (.cons (.if_ (.or (.not (.isi (.idx (.var 0) (.cst (.int 2))) .tuple)) (.not (.cmp2 .le .le (.cst (.int 1)) (.bf .len false (.cons (.idx (.var 0) (.cst (.int 2))) .nil)) (.glo 4))))
   (.cons (.ret (.cst (.bl false)))
   .nil)
   .nil)
 (.cons (.ret (.and (.bf .all false (.cons (.comp false [1] (.nm 1) (.ex (.idx (.var 0) (.cst (.int 2)))) .nil (.call 3 (.cons (.var 1) .nil))) .nil)) (.call 4 (.cons (.idx (.var 0) (.cst (.int 2))) .nil))))
 .nil))))
def b_is_picker : ISs :=
  (.cons (.if_ (.or (.not (.isi (.var 0) .tuple)) (.or (.cmp .ne (.bf .len false (.cons (.var 0) .nil)) (.cst (.int 2))) (.and (.cmp .ne (.idx (.var 0) (.cst (.int 0))) (.cst (.str ""))) (.not (.call 1 (.cons (.idx (.var 0) (.cst (.int 0))) .nil))))))
   (.cons (.ret (.cst (.bl false)))
   .nil)
   .nil)
 (.cons (.if_ (.or (.not (.isi (.idx (.var 0) (.cst (.int 1))) .tuple)) (.cmp .gt (.bf .len false (.cons (.idx (.var 0) (.cst (.int 1))) .nil)) (.glo 4)))
   (.cons (.ret (.cst (.bl false)))
   .nil)
   .nil)
 (.cons (.ret (.bf .all false (.cons (.comp false [1] (.nm 1) (.ex (.idx (.var 0) (.cst (.int 1)))) .nil (.call 8 (.cons (.var 1) .nil))) .nil)))
 .nil)))
def b_need_picker : ISs :=
  (.cons (.if_ (.not (.call 9 (.cons (.var 0) .nil)))
   (.cons .nev
   .nil)
   .nil)
 .nil)
def b_pick : ISs :=
  (.cons (.if_ (.cmp .nin (.idx (.var 0) (.cst (.int 0))) (.tup (.cons (.cst (.str "")) (.cons (.idx (.var 1) (.cst (.int 0))) .nil))))
   (.cons (.ret (.cst (.bl false)))
   .nil)
   .nil)
 (.cons (.asg (.nm 2) (.dcomp false [3, 4] (.tp [3, 4]) (.ex (.idx (.var 1) (.cst (.int 1)))) (.var 3) (.var 4)))
 (.cons (.ret (.bf .all false (.cons (.comp false [3, 5, 6] (.tp [3, 5, 6]) (.ex (.idx (.var 0) (.cst (.int 1)))) .nil (.cmp .eq (.cmp .inn (.bm .get false (.var 2) (.cons (.var 3) (.cons (.cst (.str "")) .nil))) (.var 6)) (.cmp .eq (.var 5) (.cst (.str "in"))))) .nil)))
 .nil)))
def b_picks : ISs :=
  (.cons (.expr (.call 10 (.cons (.var 0) .nil)))
 (.cons (.expr (.call 7 (.cons (.var 1) .nil)))
 (.cons (.ret (.call 11 (.cons (.var 0) (.cons (.var 1) .nil))))
 .nil)))
def b_wanted : ISs :=
  (.cons (.asg (.nm 1) (.dic0 true))
 (.cons (.for_ (.tp [2, 3, 4]) (.ex (.idx (.var 0) (.cst (.int 1))))
   (.cons (.if_ (.cmp .eq (.var 3) (.cst (.str "in")))
     (.cons (.sub (.var 1) (.var 2) (.comp false [5] (.nm 5) (.ex (.var 4)) (.cons (.cmp .inn (.var 5) (.bm .get false (.var 1) (.cons (.var 2) (.cons (.var 4) .nil)))) .nil) (.var 5)))
     .nil)
     .nil)
   .nil))
 (.cons (.ret (.dcomp false [2, 4] (.tp [2, 4]) (.itms (.var 1)) (.var 2) (.comp false [5] (.nm 5) (.ex (.var 4)) (.cons (.cmp .nin (.var 5) (.call 14 (.cons (.var 0) (.cons (.var 2) .nil)))) .nil) (.var 5))))
 .nil)))
def b_barred : ISs :=
  (.cons (.ret (.comp2 false [3, 4, 5, 2] (.tp [3, 4, 5]) (.ex (.idx (.var 0) (.cst (.int 1)))) (.cons (.and (.cmp .eq (.var 3) (.var 1)) (.cmp .eq (.var 4) (.cst (.str "out")))) .nil) [2] (.nm 2) (.ex (.var 5)) .nil (.var 2)))
 .nil)
def b_parted : ISs :=
  (.cons (.expr (.call 10 (.cons (.var 0) .nil)))
 (.cons (.expr (.call 10 (.cons (.var 1) .nil)))
 (.cons (.asg (.nm 2) (.call 13 (.cons (.var 0) .nil)))
 (.cons (.if_ (.inv (.lst false .nil) (.var 2))
   (.cons (.ret (.cst (.non)))
   .nil)
   .nil)
 (.cons (.asg (.nm 3) (.dcomp false [5, 7] (.tp [5, 7]) (.itms (.var 2)) (.var 5) (.idx (.var 7) (.cst (.int 0)))))
 (.cons (.asg (.nm 4) (.idx (.var 0) (.cst (.int 0))))
 (.cons (.if_ (.cmp .eq (.var 4) (.cst (.str "")))
   (.cons (.asg (.nm 4) (.ite (.cmp .eq (.idx (.var 1) (.cst (.int 0))) (.cst (.str "a"))) (.cst (.str "b")) (.cst (.str "a"))))
   .nil)
   .nil)
 (.cons (.if_ (.cmp .nin (.idx (.var 1) (.cst (.int 0))) (.tup (.cons (.cst (.str "")) (.cons (.var 4) .nil))))
   (.cons (.ret (.call 17 (.cons (.var 4) (.cons (.var 3) .nil))))
   .nil)
   .nil)
 (.cons (.for_ (.tp [5, 6, 7]) (.ex (.idx (.var 1) (.cst (.int 1))))
   (.cons (.asg (.nm 8) (.call 16 (.cons (.var 0) (.cons (.var 2) (.cons (.var 3) (.cons (.tup (.cons (.var 5) (.cons (.var 6) (.cons (.var 7) .nil)))) .nil))))))
   (.cons (.if_ (.cmp .isn (.var 8) (.cst (.non)))
     (.cons (.ret (.call 17 (.cons (.var 4) (.cons (.var 8) .nil))))
     .nil)
     .nil)
   .nil)))
 (.cons (.ret (.cst (.non)))
 .nil))))))))))
def b_breaking : ISs :=
  (.cons (.asg (.tp [6, 7, 8]) (.var 3))
 (.cons (.asg (.nm 4) (.bf .dict true (.cons (.var 2) .nil)))
 (.cons (.if_ (.cmp .inn (.var 6) (.var 1))
   (.cons (.asg (.nm 5) (.comp false [9] (.nm 9) (.ex (.idx (.var 1) (.var 6))) (.cons (.cmp .eq (.cmp .inn (.var 9) (.var 8)) (.cmp .eq (.var 7) (.cst (.str "out")))) .nil) (.var 9)))
   (.cons (.if_ (.cmp .eq (.var 5) (.lst false .nil))
     (.cons (.ret (.cst (.non)))
     .nil)
     .nil)
   (.cons (.sub (.var 4) (.var 6) (.idx (.var 5) (.cst (.int 0))))
   (.cons (.ret (.var 4))
   .nil))))
   .nil)
 (.cons (.if_ (.cmp .eq (.var 7) (.cst (.str "in")))
   (.cons (.ret (.var 4))
   .nil)
   .nil)
 (.cons (.asg (.nm 5) (.comp false [9] (.nm 9) (.ex (.var 8)) (.cons (.cmp .nin (.var 9) (.call 14 (.cons (.var 0) (.cons (.var 6) .nil)))) .nil) (.var 9)))
 (.cons (.if_ (.or (.cmp .eq (.var 5) (.lst false .nil)) (.cmp .eq (.bf .len false (.cons (.var 4) .nil)) (.glo 4)))
   (.cons (.ret (.cst (.non)))
   .nil)
   .nil)
 (.cons (.sub (.var 4) (.var 6) (.idx (.var 5) (.cst (.int 0))))
 (.cons (.ret (.var 4))
 .nil))))))))
def b_named : ISs :=
  (.cons (.ret (.tup (.cons (.var 0) (.cons (.tupz (.comp false [2] (.nm 2) (.ex (.bf .sorted false (.cons (.var 1) .nil))) .nil (.tup (.cons (.var 2) (.cons (.idx (.var 1) (.var 2)) .nil))))) .nil))))
 .nil)
def b__law_dice : ISs :=
  (.cons (.asg (.nm 2) (.var 1))
 (.cons (.for_ (.nm 3) (.ex (.var 0))
   (.cons (.asg (.nm 2) (.bin .mod false (.bin .add false (.bin .mul false (.var 2) (.cst (.int 31))) (.bf .abs false (.cons (.var 3) .nil))) (.cst (.int 2147483647))))
   .nil))
 (.cons (.ret (.bin .add true (.lst false (.cons (.var 2) (.cons (.cst (.int 0)) .nil))) (.comp false [3] (.nm 3) (.ex (.var 0)) (.cons (.cmp .ge (.var 3) (.bin .pow false (.cst (.int 10)) (.cst (.int 18)))) .nil) (.var 3))))
 .nil)))
def b__law_off : ISs :=
  (.cons (.if_ (.and (.cmp .eq (.idx (.var 0) (.cst (.int 1))) (.cst (.int 0))) (.cmp .gt (.bf .len false (.cons (.var 0) .nil)) (.cst (.int 2))))
   (.cons (.sub (.var 0) (.cst (.int 1)) (.bm .pop false (.var 0) (.cons (.cst (.int 2)) .nil)))
   .nil)
   .nil)
 (.cons (.if_ (.cmp .gt (.idx (.var 0) (.cst (.int 1))) (.cst (.int 0)))
   (.cons (.asg (.nm 2) (.bin .mod false (.idx (.var 0) (.cst (.int 1))) (.var 1)))
   (.cons (.sub (.var 0) (.cst (.int 1)) (.bin .fdiv false (.idx (.var 0) (.cst (.int 1))) (.var 1)))
   (.cons (.ret (.var 2))
   .nil)))
   .nil)
 (.cons (.sub (.var 0) (.cst (.int 0)) (.bin .mod false (.bin .add false (.bin .mul false (.idx (.var 0) (.cst (.int 0))) (.cst (.int 48271))) (.cst (.int 11))) (.cst (.int 2147483647))))
 (.cons (.ret (.bin .mod false (.bin .fdiv false (.idx (.var 0) (.cst (.int 0))) (.cst (.int 64))) (.var 1)))
 .nil))))
def b__law_mixed : ISs :=
  (.cons (.asg (.nm 2) (.bf .list true (.cons (.var 1) .nil)))
 (.cons (.asg (.nm 3) (.lst true .nil))
 (.cons (.while_ (.cmp .ne (.var 2) (.lst false .nil))
   (.cons (.expr (.bm .append false (.var 3) (.cons (.bm .pop false (.var 2) (.cons (.call 19 (.cons (.var 0) (.cons (.bf .len false (.cons (.var 2) .nil)) .nil))) .nil)) .nil)))
   .nil))
 (.cons (.ret (.var 3))
 .nil))))
def b_law : ISs :=
  (.cons (.asg (.nm 1) (.call 18 (.cons (.var 0) (.cons (.cst (.int 0)) .nil))))
 (.cons (.asg (.nm 2) (.call 20 (.cons (.var 1) (.cons (.lst false (.cons (.cst (.str "a")) (.cons (.cst (.str "b")) (.cons (.cst (.str "c")) (.cons (.cst (.str "d")) (.cons (.cst (.str "room")) (.cons (.cst (.str "z")) .nil))))))) .nil))))
 (.cons (.asg (.nm 3) (.call 19 (.cons (.var 1) (.cons (.cst (.int 5)) .nil))))
 (.cons (.asg (.nm 4) (.idx (.lst false (.cons (.cst (.str "")) (.cons (.cst (.str "load")) .nil))) (.call 19 (.cons (.var 1) (.cons (.cst (.int 2)) .nil)))))
 (.cons (.asg (.nm 5) (.tup (.cons (.var 4) (.cons (.bf .tuple false (.cons (.comp false [10] (.nm 10) (.ex (.slH false (.var 2) (.var 3))) .nil (.tup (.cons (.var 10) (.cons (.cst (.str "in")) (.cons (.slH false (.tup (.cons (.cst (.str "x")) (.cons (.cst (.str "y")) .nil))) (.bin .add false (.cst (.int 1)) (.call 19 (.cons (.var 1) (.cons (.cst (.int 2)) .nil))))) .nil))))) .nil)) .nil))))
 (.cons (.asg (.nm 6) (.idx (.lst false (.cons (.cst (.str "in")) (.cons (.cst (.str "out")) .nil))) (.call 19 (.cons (.var 1) (.cons (.cst (.int 2)) .nil)))))
 (.cons (.asg (.nm 7) (.idx (.lst false (.cons (.tup (.cons (.cst (.str "x")) .nil)) (.cons (.tup (.cons (.cst (.str "x")) (.cons (.cst (.str "y")) .nil))) (.cons (.tup (.cons (.cst (.str "q")) .nil)) .nil)))) (.call 19 (.cons (.var 1) (.cons (.cst (.int 3)) .nil)))))
 (.cons (.asg (.nm 8) (.call 15 (.cons (.var 5) (.cons (.tup (.cons (.var 4) (.cons (.tup (.cons (.tup (.cons (.idx (.var 2) (.cst (.int 5))) (.cons (.var 6) (.cons (.var 7) .nil)))) .nil)) .nil))) .nil))))
 (.cons (.if_ (.and (.cmp .eq (.var 6) (.cst (.str "out"))) (.cmp .eq (.var 3) (.cst (.int 4))))
   (.cons (.ret (.cmp .is (.varw 8) (.cst (.non))))
   .nil)
   .nil)
 (.cons (.if_ (.or (.cmp .is (.varw 8) (.cst (.non))) (.or (.cmp .isn (.call 12 (.cons (.var 5) (.cons (.varw 8) .nil))) (.cst (.bl true))) (.cmp .gt (.bf .len false (.cons (.idx (.varw 8) (.cst (.int 1))) .nil)) (.cst (.int 4)))))
   (.cons (.ret (.cst (.bl false)))
   .nil)
   .nil)
 (.cons (.if_ (.and (.cmp .eq (.var 6) (.cst (.str "out"))) (.cmp .nin (.bm .get false (.dictz false (.idx (.var 8) (.cst (.int 1)))) (.cons (.idx (.var 2) (.cst (.int 5))) (.cons (.cst (.str "")) .nil))) (.var 7)))
   (.cons (.ret (.cst (.bl false)))
   .nil)
   .nil)
 (.cons (.asg (.nm 9) (.slH false (.idx (.var 5) (.cst (.int 1))) (.call 19 (.cons (.var 1) (.cons (.bin .add false (.var 3) (.cst (.int 1))) .nil)))))
 (.cons (.ret (.cmp .is (.call 15 (.cons (.var 5) (.cons (.tup (.cons (.var 4) (.cons (.var 9) .nil))) .nil))) (.cst (.non))))
 .nil)))))))))))))
def fnL : List FnDef := [⟨3, 4, b_is_run⟩, ⟨1, 1, b_is_word⟩, ⟨1, 1, b_is_key⟩, ⟨1, 1, b_is_value⟩, ⟨1, 2, b_are_rising⟩, ⟨1, 4, b_are_tags⟩, ⟨1, 1, b_is_name⟩, ⟨1, 1, b_need_name⟩, ⟨1, 2, b_is_condition⟩, ⟨1, 2, b_is_picker⟩, ⟨1, 1, b_need_picker⟩, ⟨2, 7, b_pick⟩, ⟨2, 2, b_picks⟩, ⟨1, 6, b_wanted⟩, ⟨2, 6, b_barred⟩, ⟨2, 9, b_parted⟩, ⟨4, 10, b_breaking⟩, ⟨2, 3, b_named⟩, ⟨2, 4, b__law_dice⟩, ⟨2, 3, b__law_off⟩, ⟨2, 4, b__law_mixed⟩, ⟨1, 11, b_law⟩]
def csL : List D := [.str "abcdefghijklmnopqrstuvwxyz", .str "abcdefghijklmnopqrstuvwxyz0123456789", .int 8, .int 6, .int 4]
def fnN0 : List Str := ["is_run", "is_word", "is_key", "is_value", "are_rising", "are_tags", "is_name", "need_name", "is_condition", "is_picker", "need_picker", "pick"]
def fnN1 : List Str := ["picks", "wanted", "barred", "parted", "breaking", "named", "_law_dice", "_law_off", "_law_mixed", "law"]
def fnN : List Str := fnN0 ++ fnN1
def csN : List Str := ["LETTERS", "SIGNS", "MOST_WORD", "MOST_KEY", "MOST_TAGS"]
def Pr : Prog := ⟨fun f => fnL[f]?, fun g => csL[g]?⟩
end L
namespace L
open PySem TH
theorem Phi_fn {P : Prog} {k f : Nat} {fd : FnDef} {ds : List D} {S : Sto} {Q : D → Sto → Prop} {E : Nat → List D → Sto → Prop} {ε : TH.Env} (e : P.fn f = some fd) (h : ds.length = fd.np) (hε : startV fd.ns ds = ε)
    (w : wpSs P (Phi P k) fd.body ε S { nx := fun _ S1 => Fin Q .non S1, rt := fun d S1 => Fin Q d S1, ex := fun c l _ S1 => FinX E c l S1 }) : Phi P (k + 1) f ds S Q E := by
  show (match P.fn f with
    | none => False
    | some fd => ds.length = fd.np ∧ wpSs P (Phi P k) fd.body (startV fd.ns ds) S { nx := fun _ S1 => Fin Q .non S1, rt := fun d S1 => Fin Q d S1, ex := fun c l _ S1 => FinX E c l S1 })
  rw [e]
  subst hε
  exact ⟨h, w⟩
theorem Fin.lst {Q : D → Sto → Prop} {n : Nat} {l : List D} {S S' : Sto} (e : S n = some (.lst l)) (hs : Sto.le S' S) (hn : S' n = none) (q : Q (.ilst l) S') : Fin Q (.ref n) S := .inr (.inl ⟨n, l, S', rfl, e, hs, hn, q⟩)
theorem Fin.dic {Q : D → Sto → Prop} {n : Nat} {l : List (D × D)} {lk : Bool} {S S' : Sto} (e : S n = some (.dic l lk)) (hs : Sto.le S' S) (hn : S' n = none) (q : Q (.idic l) S') : Fin Q (.ref n) S := .inr (.inr ⟨n, l, lk, S', rfl, e, hs, hn, q⟩)
theorem Fin.here {Q : D → Sto → Prop} {d : D} {S : Sto} (h : Q d S) : Fin Q d S := .inl ⟨S, fun _ _ e => e, h⟩
theorem compL_pure {W : Sto → Prop} {step : D → Sto → (Option D → Sto → Prop) → Prop} {fin : List D → Sto → Prop} {S : Sto} (f : D → Option D) (hW : W S) : ∀ (xs : List D), (∀ x ∈ xs, ∀ k : Option D → Sto → Prop, k (f x) S → step x S k) → ∀ acc, fin (acc ++ xs.filterMap f) S → compL W step fin xs acc S
  | [], h, acc, q => ⟨hW, by simpa using q⟩
  | x :: xs, h, acc, q => by
    refine ⟨hW, h x List.mem_cons_self _ ?_⟩
    have ih := compL_pure (W := W) (step := step) (fin := fin) f hW xs fun y hy => h y (List.mem_cons_of_mem _ hy)
    cases e : f x with
    | none =>
      refine ih acc ?_
      rw [List.filterMap_cons, e] at q
      exact q
    | some d =>
      refine ih _ ?_
      rw [List.filterMap_cons, e] at q
      rw [List.append_assoc]
      exact q
theorem eqR_nil {l : List D} {S : Sto} {Q : Bool → Prop} (h : l.all D.scl = true) (q : Q l.isEmpty) : eqR (.ilst l) (.ilst []) S Q := by
  refine ⟨.ilst l, .ilst [], .ilst (RsL.self_scl h), .ilst .nil, Nat.le_trans (Nat.min_le_right _ _) (by decide), ?_⟩
  have e : D.eqv (.ilst l) (.ilst []) = l.isEmpty := by cases l <;> rfl
  rw [e]; exact q
theorem eqR_scl {x y : D} {S : Sto} {Q : Bool → Prop} (hx : x.scl = true) (hy : y.scl = true) (q : Q (D.eqv x y)) : eqR x y S Q := by
  unfold eqR
  rw [hx, hy]
  exact q
/-! ### names -/
def runB (s g : Str) (u : Int) : Bool := decide (1 ≤ (s.length : Int)) && decide ((s.length : Int) ≤ u) && s.cps.toList.all fun c => decide (c ∈ g.cps.toList)
def sign (c : Nat) : D := .str ⟨#[c]⟩
def offS (p : Nat → Bool) (x : D) : Option D := match x with
  | .str z => match z.cps.toList with
    | [c] => if p c = true then none else some x
    | _ => none
  | _ => none
theorem offS_sign (p : Nat → Bool) (c : Nat) : offS p (sign c) = if p c = true then none else some (sign c) := rfl
theorem eqR_ii {i j : Int} {S : Sto} {Q : Bool → Prop} : eqR (.int i) (.int j) S Q = Q (i == j) := rfl
theorem eqR_ss {i j : Str} {S : Sto} {Q : Bool → Prop} : eqR (.str i) (.str j) S Q = Q (i == j) := rfl
theorem eqR_bb {i j : Bool} {S : Sto} {Q : Bool → Prop} : eqR (.bl i) (.bl j) S Q = Q (i == j) := rfl
section
variable {a b c : D}
theorem ix20 : ((ixD [a, b].length 0).bind fun j => [a, b][j]?) = some a := rfl
theorem ix21 : ((ixD [a, b].length 1).bind fun j => [a, b][j]?) = some b := rfl
theorem ix30 : ((ixD [a, b, c].length 0).bind fun j => [a, b, c][j]?) = some a := rfl
theorem ix31 : ((ixD [a, b, c].length 1).bind fun j => [a, b, c][j]?) = some b := rfl
theorem ix32 : ((ixD [a, b, c].length 2).bind fun j => [a, b, c][j]?) = some c := rfl
theorem lenk2 : ((([a, b].length : Nat) : Int) == 2) = true := rfl
theorem lenk3 : ((([a, b, c].length : Nat) : Int) == 3) = true := rfl
theorem pcs0 : Pr.cs 0 = some (.str "abcdefghijklmnopqrstuvwxyz") := rfl
theorem pcs1 : Pr.cs 1 = some (.str "abcdefghijklmnopqrstuvwxyz0123456789") := rfl
theorem pcs2 : Pr.cs 2 = some (.int 8) := rfl
theorem pcs3 : Pr.cs 3 = some (.int 6) := rfl
theorem pcs4 : Pr.cs 4 = some (.int 4) := rfl
end
theorem filterMap_signs (p : Nat → Bool) : ∀ l : List Nat, (l.map sign).filterMap (offS p) = (l.filter fun c => !p c).map sign
  | [] => rfl
  | c :: l => by
    rw [List.map_cons, List.filterMap_cons, List.filter_cons, filterMap_signs p l, offS_sign]
    cases h : p c
    · rfl
    · rfl
theorem run_ok (k : Nat) (s g : Str) (u : Int) (S : Sto) (Q : D → Sto → Prop) (E : Nat → List D → Sto → Prop) (hs : s.length ≤ SZ) (q : Q (.bl (runB s g u)) S) : Phi Pr (k + 1) 0 [.str s, .str g, .int u] S Q E := by
  refine Phi_fn (ε := [some (.str s), some (.str g), some (.int u), none]) rfl rfl rfl ?_
  dsimp only [b_is_run]
  try dsimp only [wpSs, wpS, wpE, wpT, wpA, wpI, wpTs, getV, setV, setVs, wipeV, asgT, iterR, isiR, tyOf, subTy, tyB, optI, bfR, seqOf, lstOf, cmpR, newL, binR, idxR]
  rw [if_pos rfl]
  refine ⟨hs, ?_⟩
  unfold runB at q
  by_cases h1 : 1 ≤ (s.length : Int)
  · rw [if_pos (decide_eq_true h1)]
    rw [decide_eq_true h1] at q
    by_cases h2 : (s.length : Int) ≤ u
    · rw [if_pos (decide_eq_true h2)]
      rw [decide_eq_true h2] at q
      refine ⟨hs, ?_⟩
      refine compL_pure (offS fun c => decide (c ∈ g.cps.toList)) trivial _ ?_ [] ?_
      · intro x hx kk hk
        obtain ⟨c, hc, rfl⟩ := List.mem_map.mp hx
        refine ⟨c, rfl, ?_⟩
        have hk : kk (if decide (c ∈ g.cps.toList) = true then none else some (sign c)) S := hk
        show if (!decide (c ∈ g.cps.toList)) = true then kk (some (sign c)) S else kk none S
        cases h : decide (c ∈ g.cps.toList)
        · rw [h] at hk; exact hk
        · rw [h] at hk; exact hk
      · show eqR (.ilst ([] ++ ((s.cps.toList.map sign).filterMap _))) (.ilst []) S _
        rw [filterMap_signs]
        refine eqR_nil ?_ (Fin.here ?_)
        · rw [List.nil_append, List.all_eq_true]
          intro d hd
          obtain ⟨c, _, rfl⟩ := List.mem_map.mp hd
          rfl
        · have e : (([] ++ (s.cps.toList.filter fun c => !decide (c ∈ g.cps.toList)).map sign).isEmpty) = s.cps.toList.all fun c => decide (c ∈ g.cps.toList) := by
            rw [List.nil_append, List.isEmpty_map]
            generalize s.cps.toList = l
            induction l with
            | nil => rfl
            | cons c l ih =>
              rw [List.filter_cons, List.all_cons]
              cases h : decide (c ∈ g.cps.toList)
              · rfl
              · rw [← ih]; rfl
          rw [e]
          exact q
    · rw [if_neg (by rw [decide_eq_false h2]; decide)]
      rw [decide_eq_false h2] at q
      exact Fin.here q
  · rw [decide_eq_false h1] at q
    rw [if_neg (by rw [decide_eq_false h1]; decide), if_neg (by decide)]
    exact Fin.here q
theorem word_ok (k : Nat) (s : Str) (S : Sto) (Q : D → Sto → Prop) (E : Nat → List D → Sto → Prop) (hs : s.length ≤ SZ) (q : Q (.bl (runB s "abcdefghijklmnopqrstuvwxyz" 8)) S) : Phi Pr (k + 2) 1 [.str s] S Q E :=
  Phi_fn (ε := [some (.str s)]) rfl rfl rfl (run_ok k s _ _ S _ _ hs (Fin.here q))
theorem key_ok (k : Nat) (s : Str) (S : Sto) (Q : D → Sto → Prop) (E : Nat → List D → Sto → Prop) (hs : s.length ≤ SZ) (q : Q (.bl (runB s "abcdefghijklmnopqrstuvwxyz" 6)) S) : Phi Pr (k + 2) 2 [.str s] S Q E :=
  Phi_fn (ε := [some (.str s)]) rfl rfl rfl (run_ok k s _ _ S _ _ hs (Fin.here q))
theorem value_ok (k : Nat) (s : Str) (S : Sto) (Q : D → Sto → Prop) (E : Nat → List D → Sto → Prop) (hs : s.length ≤ SZ) (q : Q (.bl (runB s "abcdefghijklmnopqrstuvwxyz0123456789" 6)) S) : Phi Pr (k + 2) 3 [.str s] S Q E :=
  Phi_fn (ε := [some (.str s)]) rfl rfl rfl (run_ok k s _ _ S _ _ hs (Fin.here q))
theorem rngL_mem : ∀ (m : Nat) (lo : Int) (x : D), x ∈ rngL lo m → ∃ i : Nat, i < m ∧ x = .int (lo + i)
  | 0, _, _, h => by cases h
  | m + 1, lo, x, h => by
    rcases List.mem_cons.mp (show x ∈ D.int lo :: rngL (lo + 1) m from h) with rfl | h
    · exact ⟨0, Nat.succ_pos _, by rw [Int.ofNat_zero, Int.add_zero]⟩
    · obtain ⟨i, hi, rfl⟩ := rngL_mem m (lo + 1) x h
      exact ⟨i + 1, Nat.succ_lt_succ hi, by congr 1; omega⟩
theorem ixD_nat {n i : Nat} (h : i < n) : ixD n (i : Int) = some i := by
  unfold ixD
  rw [if_pos (by omega), if_pos (by omega)]
  rfl
theorem fm_none : ∀ l : List D, l.filterMap (fun _ => (none : Option D)) = []
  | [] => rfl
  | _ :: l => fm_none l
def Rises : List Str → Prop := List.Pairwise fun a b => strLt a b = true
theorem Rises.at {ss : List Str} (h : Rises ss) {i : Nat} (hi : i + 1 < ss.length) : strLt (ss[i]'(by omega)) ss[i + 1] = true :=
  List.pairwise_iff_getElem.mp h i (i + 1) _ _ (Nat.lt_succ_self _)
theorem rise_ok (k : Nat) (x : D) (ss : List Str) (S : Sto) (Q : D → Sto → Prop) (E : Nat → List D → Sto → Prop) (hx : x = .tup (ss.map D.str) ∨ x = .ilst (ss.map D.str)) (hl : ss.length ≤ SZ) (hr : Rises ss) (q : Q (.bl true) S) : Phi Pr (k + 1) 4 [x] S Q E := by
  refine Phi_fn (ε := [some x, none]) rfl rfl rfl ?_
  dsimp only [b_are_rising]
  have hlm : (ss.map D.str).length = ss.length := List.length_map _
  have hl' : ss.length ≤ 16777216 := hl
  rcases hx with rfl | rfl
  all_goals
    try dsimp only [wpSs, wpS, wpE, wpT, wpA, wpI, wpTs, getV, setV, setVs, wipeV, asgT, iterR, isiR, tyOf, subTy, tyB, optI, bfR, seqOf, lstOf, cmpR, newL, binR, idxR]
    refine ⟨⟨by decide, by decide, by rw [hlm]; omega, by rw [hlm]; omega, by rw [hlm]; show (ss.length : Int) - 1 ≤ 16777216; omega⟩, ?_⟩
    refine compL_pure (fun _ => none) trivial _ ?_ [] ?_
    · intro y hy kk hk
      obtain ⟨i, hi, rfl⟩ := rngL_mem _ _ _ hy
      rw [hlm] at hi
      have h1 : i + 1 < ss.length := by omega
      dsimp only
      have e1 : (1 + (i : Int) - 1) = (i : Nat) := by omega
      have e2 : (1 + (i : Int)) = ((i + 1 : Nat) : Int) := by omega
      rw [e1, e2, ixD_nat (by rw [hlm]; omega), ixD_nat (by rw [hlm]; exact h1)]
      dsimp only [Option.bind]
      rw [List.getElem?_map, List.getElem?_map, List.getElem?_eq_getElem (by omega), List.getElem?_eq_getElem h1]
      dsimp only [Option.map]
      rw [hr.at h1]
      exact hk
    · refine eqR_nil ?_ (Fin.here ?_)
      · rw [fm_none]; rfl
      · rw [fm_none]; exact q
theorem walkL_inv {W : Sto → Prop} {step : D → TH.Env → Sto → (TH.Env → Sto → Prop) → Prop} {fin : TH.Env → Sto → Prop} (I : List D → TH.Env → Sto → Prop) (hW : ∀ r ε S, I r ε S → W S)
    (hs : ∀ x r ε S (k : TH.Env → Sto → Prop), I (x :: r) ε S → (∀ ε' S', I r ε' S' → k ε' S') → step x ε S k) (hf : ∀ ε S, I [] ε S → fin ε S) : ∀ xs ε S, I xs ε S → walkL W step fin xs ε S
  | [], ε, S, h => ⟨hW _ _ _ h, hf _ _ h⟩
  | x :: xs, ε, S, h => ⟨hW _ _ _ h, hs x xs ε S _ h fun ε' S' h' => walkL_inv I hW hs hf xs ε' S' h'⟩
def tg (p : Str × Str) : D := .tup [.str p.1, .str p.2]
abbrev lowA : Str := "abcdefghijklmnopqrstuvwxyz"
abbrev lowS : Str := "abcdefghijklmnopqrstuvwxyz0123456789"
structure TagOk (p : Str × Str) : Prop where
  k : runB p.1 lowA 6 = true
  v : runB p.2 lowS 6 = true
  kl : p.1.length ≤ SZ
  vl : p.2.length ≤ SZ
def fstD (x : D) : Option D := match x with
  | .tup [a, _] => some a
  | _ => none
theorem fm_fst : ∀ l : List (Str × Str), (l.map tg).filterMap fstD = (l.map (·.1)).map D.str
  | [] => rfl
  | p :: l => by
    rw [List.map_cons, List.filterMap_cons, fm_fst l]; rfl
theorem tags_ok (k : Nat) (l : List (Str × Str)) (S : Sto) (Q : D → Sto → Prop) (E : Nat → List D → Sto → Prop) (hl : l.length ≤ 4) (ht : ∀ p ∈ l, TagOk p) (hr : Rises (l.map (·.1))) (q : Q (.bl true) S) : Phi Pr (k + 3) 5 [.tup (l.map tg)] S Q E := by
  refine Phi_fn (ε := [some (.tup (l.map tg)), none, none, none]) rfl rfl rfl ?_
  dsimp only [b_are_tags]
  try dsimp only [wpSs, wpS, wpE, wpT, wpA, wpI, wpTs, getV, setV, setVs, wipeV, asgT, iterR, isiR, tyOf, subTy, tyB, optI, bfR, seqOf, lstOf, cmpR, newL, binR, idxR]
  have hlm : (l.map tg).length = l.length := List.length_map _
  try simp only [eqR_ii, eqR_ss, eqR_bb, ix20, ix21, ix30, ix31, ix32, lenk2, lenk3, pcs0, pcs1, pcs2, pcs3, pcs4, Bool.not_true, Bool.not_false, if_true, if_false, Bool.false_eq_true, reduceCtorEq, ite_true, ite_false]
  try dsimp only [wpSs, wpS, wpE, wpT, wpA, wpI, wpTs, getV, setV, setVs, wipeV, asgT, iterR, isiR, tyOf, subTy, tyB, optI, bfR, seqOf, lstOf, cmpR, newL, binR, idxR]
  rw [if_neg (by rw [decide_eq_false (by rw [hlm]; omega)]; decide)]
  refine walkL_inv (fun r ε' S' => S' = S ∧ (∀ x ∈ r, x ∈ l.map tg) ∧ ∃ o, ε' = [some (.tup (l.map tg)), o, none, none]) (fun _ _ _ _ => trivial) ?_ ?_ _ _ _ ⟨rfl, fun x h => h, none, rfl⟩
  · rintro x r ε' S' kk ⟨rfl, hm, o, rfl⟩ hk
    obtain ⟨p, hp, rfl⟩ := List.mem_map.mp (hm x List.mem_cons_self)
    have t := ht p hp
    dsimp only [tg]
    try dsimp only [wpSs, wpS, wpE, wpT, wpA, wpI, wpTs, getV, setV, setVs, wipeV, asgT, iterR, isiR, tyOf, subTy, tyB, optI, bfR, seqOf, lstOf, cmpR, newL, binR, idxR]
    try simp only [eqR_ii, eqR_ss, eqR_bb, ix20, ix21, ix30, ix31, ix32, lenk2, lenk3, pcs0, pcs1, pcs2, pcs3, pcs4, Bool.not_true, Bool.not_false, if_true, if_false, Bool.false_eq_true, reduceCtorEq, ite_true, ite_false]
    refine key_ok _ _ _ _ _ t.kl ?_
    rw [t.k]
    try dsimp only [wpSs, wpS, wpE, wpT, wpA, wpI, wpTs, getV, setV, setVs, wipeV, asgT, iterR, isiR, tyOf, subTy, tyB, optI, bfR, seqOf, lstOf, cmpR, newL, binR, idxR]
    try simp only [eqR_ii, eqR_ss, eqR_bb, ix20, ix21, ix30, ix31, ix32, lenk2, lenk3, pcs0, pcs1, pcs2, pcs3, pcs4, Bool.not_true, Bool.not_false, if_true, if_false, Bool.false_eq_true, reduceCtorEq, ite_true, ite_false]
    refine value_ok _ _ _ _ _ t.vl ?_
    rw [t.v]
    try dsimp only [wpSs, wpS, wpE, wpT, wpA, wpI, wpTs, getV, setV, setVs, wipeV, asgT, iterR, isiR, tyOf, subTy, tyB, optI, bfR, seqOf, lstOf, cmpR, newL, binR, idxR]
    try simp only [eqR_ii, eqR_ss, eqR_bb, ix20, ix21, ix30, ix31, ix32, lenk2, lenk3, pcs0, pcs1, pcs2, pcs3, pcs4, Bool.not_true, Bool.not_false, if_true, if_false, Bool.false_eq_true, reduceCtorEq, ite_true, ite_false]
    exact hk _ _ ⟨rfl, fun x h => hm x (List.mem_cons_of_mem _ h), _, rfl⟩
  · rintro ε' S' ⟨rfl, _, o, rfl⟩
    try dsimp only [wpSs, wpS, wpE, wpT, wpA, wpI, wpTs, getV, setV, setVs, wipeV, asgT, iterR, isiR, tyOf, subTy, tyB, optI, bfR, seqOf, lstOf, cmpR, newL, binR, idxR]
    refine compL_pure fstD trivial _ ?_ [] ?_
    · intro x hx kk hk
      obtain ⟨p, hp, rfl⟩ := List.mem_map.mp hx
      exact ⟨rfl, hk⟩
    · rw [fm_fst]
      exact rise_ok _ _ _ _ _ _ (.inr rfl) (by rw [List.length_map]; exact Nat.le_trans hl (by decide)) hr (Fin.here q)
theorem eqR_ne {x y : D} {S : Sto} {Q : Bool → Prop} : cmpR .ne x y S Q = eqR x y S fun b => Q (!b) := rfl
theorem name_ok (k : Nat) (w : Str) (l : List (Str × Str)) (S : Sto) (Q : D → Sto → Prop) (E : Nat → List D → Sto → Prop) (hw : runB w lowA 8 = true) (wl : w.length ≤ SZ) (hl : l.length ≤ 4) (ht : ∀ p ∈ l, TagOk p) (hr : Rises (l.map (·.1))) (q : Q (.bl true) S) :
    Phi Pr (k + 4) 6 [.tup [.str w, .tup (l.map tg)]] S Q E := by
  refine Phi_fn (ε := [some (.tup [.str w, .tup (l.map tg)])]) rfl rfl rfl ?_
  dsimp only [b_is_name]
  try dsimp only [wpSs, wpS, wpE, wpT, wpA, wpI, wpTs, getV, setV, setVs, wipeV, asgT, iterR, isiR, tyOf, subTy, tyB, optI, bfR, seqOf, lstOf, cmpR, newL, binR, idxR]
  try simp only [eqR_ii, eqR_ss, eqR_bb, ix20, ix21, ix30, ix31, ix32, lenk2, lenk3, pcs0, pcs1, pcs2, pcs3, pcs4, Bool.not_true, Bool.not_false, if_true, if_false, Bool.false_eq_true, reduceCtorEq, ite_true, ite_false]
  refine word_ok _ _ _ _ _ wl ?_
  rw [hw]
  try dsimp only [wpSs, wpS, wpE, wpT, wpA, wpI, wpTs, getV, setV, setVs, wipeV, asgT, iterR, isiR, tyOf, subTy, tyB, optI, bfR, seqOf, lstOf, cmpR, newL, binR, idxR]
  try simp only [eqR_ii, eqR_ss, eqR_bb, ix20, ix21, ix30, ix31, ix32, lenk2, lenk3, pcs0, pcs1, pcs2, pcs3, pcs4, Bool.not_true, Bool.not_false, if_true, if_false, Bool.false_eq_true, reduceCtorEq, ite_true, ite_false]
  exact tags_ok _ _ _ _ _ hl ht hr (Fin.here q)
theorem need_name_ok (k : Nat) (w : Str) (l : List (Str × Str)) (S : Sto) (Q : D → Sto → Prop) (E : Nat → List D → Sto → Prop) (hw : runB w lowA 8 = true) (wl : w.length ≤ SZ) (hl : l.length ≤ 4) (ht : ∀ p ∈ l, TagOk p) (hr : Rises (l.map (·.1))) (q : Q .non S) :
    Phi Pr (k + 5) 7 [.tup [.str w, .tup (l.map tg)]] S Q E := by
  refine Phi_fn (ε := [some (.tup [.str w, .tup (l.map tg)])]) rfl rfl rfl ?_
  dsimp only [b_need_name]
  try dsimp only [wpSs, wpS, wpE, wpT, wpA, wpI, wpTs, getV, setV, setVs, wipeV, asgT, iterR, isiR, tyOf, subTy, tyB, optI, bfR, seqOf, lstOf, cmpR, newL, binR, idxR]
  refine name_ok _ _ _ _ _ _ hw wl hl ht hr ?_
  try dsimp only [wpSs, wpS, wpE, wpT, wpA, wpI, wpTs, getV, setV, setVs, wipeV, asgT, iterR, isiR, tyOf, subTy, tyB, optI, bfR, seqOf, lstOf, cmpR, newL, binR, idxR]
  try simp only [eqR_ii, eqR_ss, eqR_bb, ix20, ix21, ix30, ix31, ix32, lenk2, lenk3, pcs0, pcs1, pcs2, pcs3, pcs4, Bool.not_true, Bool.not_false, if_true, if_false, Bool.false_eq_true, reduceCtorEq, ite_true, ite_false]
  exact Fin.here q
/-! ### pickers -/
abbrev Cnd : Type := Str × Str × List Str
def cd (c : Cnd) : D := .tup [.str c.1, .str c.2.1, .tup (c.2.2.map D.str)]
structure CndOk (c : Cnd) : Prop where
  k : runB c.1 lowA 6 = true
  kl : c.1.length ≤ SZ
  h : c.2.1 = "in" ∨ c.2.1 = "out"
  n1 : c.2.2 ≠ []
  n4 : c.2.2.length ≤ 4
  v : ∀ s ∈ c.2.2, runB s lowS 6 = true ∧ s.length ≤ SZ
  r : Rises c.2.2
theorem mem_in {h : Str} {S : Sto} {Q : Bool → Prop} {a b : Str} : memR (.str h) (.tup [.str a, .str b]) S Q = Q (a == h || (b == h || false)) := rfl
theorem bls_true : ∀ l : List D, blsOf (l.filterMap fun _ => some (D.bl true)) = some (l.map fun _ => true)
  | [] => rfl
  | x :: l => by
    rw [List.filterMap_cons]
    show (blsOf (l.filterMap fun _ => some (D.bl true))).map (true :: ·) = _
    rw [bls_true l]; rfl
theorem all_true : ∀ l : List D, (l.map fun _ => true).all id = true
  | [] => rfl
  | x :: l => by rw [List.map_cons, List.all_cons, all_true l]; rfl
theorem cond_ok (k : Nat) (c : Cnd) (S : Sto) (Q : D → Sto → Prop) (E : Nat → List D → Sto → Prop) (hc : CndOk c) (q : Q (.bl true) S) : Phi Pr (k + 3) 8 [cd c] S Q E := by
  obtain ⟨key, how, vs⟩ := c
  refine Phi_fn (ε := [some (cd (key, how, vs)), none]) rfl rfl rfl ?_
  dsimp only [b_is_condition, cd]
  have hlm : (vs.map D.str).length = vs.length := List.length_map _
  have n1 : 1 ≤ vs.length := by
    cases vs with
    | nil => exact absurd rfl hc.n1
    | cons _ _ => exact Nat.succ_le_succ (Nat.zero_le _)
  have n4 : vs.length ≤ 4 := hc.n4
  try dsimp only [wpSs, wpS, wpE, wpT, wpA, wpI, wpTs, getV, setV, setVs, wipeV, asgT, iterR, isiR, tyOf, subTy, tyB, optI, bfR, seqOf, lstOf, cmpR, newL, binR, idxR]
  try simp only [eqR_ii, eqR_ss, eqR_bb, ix20, ix21, ix30, ix31, ix32, lenk2, lenk3, pcs0, pcs1, pcs2, pcs3, pcs4, Bool.not_true, Bool.not_false, if_true, if_false, Bool.false_eq_true, reduceCtorEq, ite_true, ite_false]
  refine key_ok _ _ _ _ _ hc.kl ?_
  rw [hc.k]
  try dsimp only [wpSs, wpS, wpE, wpT, wpA, wpI, wpTs, getV, setV, setVs, wipeV, asgT, iterR, isiR, tyOf, subTy, tyB, optI, bfR, seqOf, lstOf, cmpR, newL, binR, idxR]
  try simp only [eqR_ii, eqR_ss, eqR_bb, ix20, ix21, ix30, ix31, ix32, lenk2, lenk3, pcs0, pcs1, pcs2, pcs3, pcs4, Bool.not_true, Bool.not_false, if_true, if_false, Bool.false_eq_true, reduceCtorEq, ite_true, ite_false]
  try dsimp only [wpSs, wpS, wpE, wpT, wpA, wpI, wpTs, getV, setV, setVs, wipeV, asgT, iterR, isiR, tyOf, subTy, tyB, optI, bfR, seqOf, lstOf, cmpR, newL, binR, idxR]
  rw [mem_in]
  have e : (("in" : Str) == how || (("out" : Str) == how || false)) = true := by
    rcases hc.h with h | h
    · have h : how = "in" := h
      subst h; decide +kernel
    · have h : how = "out" := h
      subst h; decide +kernel
  rw [e]
  try simp only [eqR_ii, eqR_ss, eqR_bb, ix20, ix21, ix30, ix31, ix32, lenk2, lenk3, pcs0, pcs1, pcs2, pcs3, pcs4, Bool.not_true, Bool.not_false, if_true, if_false, Bool.false_eq_true, reduceCtorEq, ite_true, ite_false]
  rw [if_pos (decide_eq_true (by rw [hlm]; omega)), decide_eq_true (show (((vs.map D.str).length : Nat) : Int) ≤ 4 by rw [hlm]; omega)]
  try simp only [eqR_ii, eqR_ss, eqR_bb, ix20, ix21, ix30, ix31, ix32, lenk2, lenk3, pcs0, pcs1, pcs2, pcs3, pcs4, Bool.not_true, Bool.not_false, if_true, if_false, Bool.false_eq_true, reduceCtorEq, ite_true, ite_false]
  refine compL_pure (fun _ => some (.bl true)) trivial _ ?_ [] ?_
  · intro x hx kk hk
    obtain ⟨z, hz, rfl⟩ := List.mem_map.mp hx
    refine value_ok _ _ _ _ _ (hc.v z hz).2 ?_
    rw [(hc.v z hz).1]
    exact hk
  · skip
    rw [List.nil_append, bls_true]
    dsimp only
    rw [all_true]
    try dsimp only [wpSs, wpS, wpE, wpT, wpA, wpI, wpTs, getV, setV, setVs, wipeV, asgT, iterR, isiR, tyOf, subTy, tyB, optI, bfR, seqOf, lstOf, cmpR, newL, binR, idxR]
    try simp only [eqR_ii, eqR_ss, eqR_bb, ix20, ix21, ix30, ix31, ix32, lenk2, lenk3, pcs0, pcs1, pcs2, pcs3, pcs4, Bool.not_true, Bool.not_false, if_true, if_false, Bool.false_eq_true, reduceCtorEq, ite_true, ite_false]
    exact rise_ok _ _ _ _ _ _ (.inl rfl) (Nat.le_trans n4 (by decide)) hc.r (Fin.here q)
structure PickOk (w : Str) (cs : List Cnd) : Prop where
  hw : w = "" ∨ runB w lowA 8 = true
  wl : w.length ≤ SZ
  n : cs.length ≤ 4
  c : ∀ c ∈ cs, CndOk c
theorem picker_ok (k : Nat) (w : Str) (cs : List Cnd) (S : Sto) (Q : D → Sto → Prop) (E : Nat → List D → Sto → Prop) (h : PickOk w cs) (q : Q (.bl true) S) : Phi Pr (k + 4) 9 [.tup [.str w, .tup (cs.map cd)]] S Q E := by
  refine Phi_fn (ε := [some (.tup [.str w, .tup (cs.map cd)]), none]) rfl rfl rfl ?_
  dsimp only [b_is_picker]
  have hlm : (cs.map cd).length = cs.length := List.length_map _
  have hn := h.n
  have rest : (if decide ((4 : Int) < (((cs.map cd).length : Nat) : Int)) = true then TH.Fin Q (.bl false) S else
      compL (Wk.still ⟨cs.map cd, none⟩) (fun x S2 kk => Phi Pr (k + 3) 8 [x] S2 (fun d S4 => kk (some d) S4) fun _ _ _ => False)
        (fun acc S2 => match blsOf acc with
          | some bs => TH.Fin Q (.bl (bs.all id)) S2
          | none => False) (cs.map cd) [] S) := by
    rw [decide_eq_false (by rw [hlm]; omega)]
    try simp only [eqR_ii, eqR_ss, eqR_bb, ix20, ix21, ix30, ix31, ix32, lenk2, lenk3, pcs0, pcs1, pcs2, pcs3, pcs4, Bool.not_true, Bool.not_false, if_true, if_false, Bool.false_eq_true, reduceCtorEq, ite_true, ite_false]
    refine compL_pure (fun _ => some (.bl true)) trivial _ ?_ [] ?_
    · intro x hx kk hk
      obtain ⟨z, hz, rfl⟩ := List.mem_map.mp hx
      exact cond_ok _ _ _ _ _ (h.c z hz) hk
    · rw [List.nil_append, bls_true]
      show TH.Fin Q (.bl ((List.map (fun _ => true) (cs.map cd)).all id)) S
      rw [all_true]
      exact Fin.here q
  try dsimp only [wpSs, wpS, wpE, wpT, wpA, wpI, wpTs, getV, setV, setVs, wipeV, asgT, iterR, isiR, tyOf, subTy, tyB, optI, bfR, seqOf, lstOf, cmpR, newL, binR, idxR]
  try simp only [eqR_ii, eqR_ss, eqR_bb, ix20, ix21, ix30, ix31, ix32, lenk2, lenk3, pcs0, pcs1, pcs2, pcs3, pcs4, Bool.not_true, Bool.not_false, if_true, if_false, Bool.false_eq_true, reduceCtorEq, ite_true, ite_false]
  rcases h.hw with rfl | hw
  · have e : ((("" : Str) == "")) = true := by decide +kernel
    rw [e]
    try simp only [eqR_ii, eqR_ss, eqR_bb, ix20, ix21, ix30, ix31, ix32, lenk2, lenk3, pcs0, pcs1, pcs2, pcs3, pcs4, Bool.not_true, Bool.not_false, if_true, if_false, Bool.false_eq_true, reduceCtorEq, ite_true, ite_false]
    exact rest
  · by_cases e : (w == ("" : Str)) = true
    · rw [e]
      try simp only [eqR_ii, eqR_ss, eqR_bb, ix20, ix21, ix30, ix31, ix32, lenk2, lenk3, pcs0, pcs1, pcs2, pcs3, pcs4, Bool.not_true, Bool.not_false, if_true, if_false, Bool.false_eq_true, reduceCtorEq, ite_true, ite_false]
      exact rest
    · rw [Bool.not_eq_true] at e
      rw [e]
      try simp only [eqR_ii, eqR_ss, eqR_bb, ix20, ix21, ix30, ix31, ix32, lenk2, lenk3, pcs0, pcs1, pcs2, pcs3, pcs4, Bool.not_true, Bool.not_false, if_true, if_false, Bool.false_eq_true, reduceCtorEq, ite_true, ite_false]
      refine word_ok _ _ _ _ _ h.wl ?_
      rw [hw]
      try dsimp only [wpSs, wpS, wpE, wpT, wpA, wpI, wpTs, getV, setV, setVs, wipeV, asgT, iterR, isiR, tyOf, subTy, tyB, optI, bfR, seqOf, lstOf, cmpR, newL, binR, idxR]
      try simp only [eqR_ii, eqR_ss, eqR_bb, ix20, ix21, ix30, ix31, ix32, lenk2, lenk3, pcs0, pcs1, pcs2, pcs3, pcs4, Bool.not_true, Bool.not_false, if_true, if_false, Bool.false_eq_true, reduceCtorEq, ite_true, ite_false]
      exact rest
theorem need_picker_ok (k : Nat) (w : Str) (cs : List Cnd) (S : Sto) (Q : D → Sto → Prop) (E : Nat → List D → Sto → Prop) (h : PickOk w cs) (q : Q .non S) : Phi Pr (k + 5) 10 [.tup [.str w, .tup (cs.map cd)]] S Q E := by
  refine Phi_fn (ε := [some (.tup [.str w, .tup (cs.map cd)])]) rfl rfl rfl ?_
  dsimp only [b_need_picker]
  try dsimp only [wpSs, wpS, wpE, wpT, wpA, wpI, wpTs, getV, setV, setVs, wipeV, asgT, iterR, isiR, tyOf, subTy, tyB, optI, bfR, seqOf, lstOf, cmpR, newL, binR, idxR]
  refine picker_ok _ _ _ _ _ _ h ?_
  try dsimp only [wpSs, wpS, wpE, wpT, wpA, wpI, wpTs, getV, setV, setVs, wipeV, asgT, iterR, isiR, tyOf, subTy, tyB, optI, bfR, seqOf, lstOf, cmpR, newL, binR, idxR]
  try simp only [eqR_ii, eqR_ss, eqR_bb, ix20, ix21, ix30, ix31, ix32, lenk2, lenk3, pcs0, pcs1, pcs2, pcs3, pcs4, Bool.not_true, Bool.not_false, if_true, if_false, Bool.false_eq_true, reduceCtorEq, ite_true, ite_false]
  exact Fin.here q
/-! ### a dict of a name's tags -/
def lastV (key : Str) (o : Option Str) : List (Str × Str) → Option Str
  | [] => o
  | p :: l => lastV key (if p.1 = key then some p.2 else o) l
def prD (p : Str × Str) : D × D := (.str p.1, .str p.2)
theorem getK_put (k a b : D) : ∀ l : List (D × D), getK k (putKD a b l) = if a = k then some b else getK k l
  | [] => rfl
  | (x, y) :: l => by
    unfold putKD
    by_cases h : x = a
    · rw [if_pos h]
      subst h
      show (if x = k then some b else getK k l) = _
      by_cases h2 : x = k
      · rw [if_pos h2, if_pos h2]
      · rw [if_neg h2, if_neg h2]
        show _ = if x = k then some y else getK k l
        rw [if_neg h2]
    · rw [if_neg h]
      show (if x = k then some y else getK k (putKD a b l)) = if a = k then some b else if x = k then some y else getK k l
      rw [getK_put k a b l]
      by_cases h2 : x = k
      · rw [if_pos h2, if_pos h2]
        rw [if_neg fun z => h (h2.trans z.symm)]
      · rw [if_neg h2, if_neg h2]
theorem getK_mk (key : Str) : ∀ (l : List (Str × Str)) (acc : List (D × D)) (o : Option Str), getK (.str key) acc = o.map D.str → getK (.str key) ((l.map prD).foldl (fun l p => putKD p.1 p.2 l) acc) = (lastV key o l).map D.str
  | [], acc, o, h => h
  | p :: l, acc, o, h => by
    rw [List.map_cons, List.foldl_cons]
    refine getK_mk key l _ _ ?_
    rw [getK_put]
    show (if D.str p.1 = D.str key then some (D.str p.2) else _) = _
    by_cases e : p.1 = key
    · rw [if_pos (by rw [e]), if_pos e]; rfl
    · rw [if_neg fun z => e (D.str.inj z), if_neg e, h]
theorem lastV_out {key : Str} : ∀ {l : List (Str × Str)} {o : Option Str}, (∀ p ∈ l, p.1 ≠ key) → lastV key o l = o
  | [], _, _ => rfl
  | p :: l, o, h => by
    show lastV key (if p.1 = key then some p.2 else o) l = o
    rw [if_neg (h p List.mem_cons_self)]
    exact lastV_out fun q hq => h q (List.mem_cons_of_mem _ hq)
theorem pairs_tg : ∀ l : List (Str × Str), pairsOf (l.map tg) = some (l.map prD)
  | [] => rfl
  | p :: l => by
    rw [List.map_cons]
    show (pairsOf (l.map tg)).map ((.str p.1, .str p.2) :: ·) = _
    rw [pairs_tg l]; rfl
theorem fm_self : ∀ l : List (Str × Str), (l.map tg).filterMap some = l.map tg := fun l => List.filterMap_some
/-- is there a tag of the key with one of the values -/
def hasT (l : List (Str × Str)) (key : Str) (vs : List Str) : Bool := l.any fun p => p.1 == key && vs.any fun v => v == p.2
theorem lastV_has {key : Str} {vs : List Str} (hv : ("" : Str) ∉ vs) : ∀ {l : List (Str × Str)}, Rises (l.map (·.1)) → (vs.any fun v => v == ((lastV key none l).getD "")) = hasT l key vs
  | [], _ => by
    show (vs.any fun v => v == "") = false
    rw [List.any_eq_false]
    intro v hm h
    exact hv (by rw [← eq_of_beq h]; exact hm)
  | p :: l, h => by
    have h : List.Pairwise (fun a b => strLt a b = true) (p.1 :: l.map (·.1)) := h
    rw [List.pairwise_cons] at h
    show (vs.any fun v => v == ((lastV key (if p.1 = key then some p.2 else none) l).getD "")) = ((p.1 == key && vs.any fun v => v == p.2) || hasT l key vs)
    by_cases e : p.1 = key
    · subst e
      rw [if_pos rfl]
      have out : ∀ q ∈ l, q.1 ≠ p.1 := fun q hq z => by
        have := h.1 q.1 (List.mem_map.mpr ⟨q, hq, rfl⟩)
        rw [z, strLt_irrefl] at this; cases this
      rw [lastV_out out]
      have no : hasT l p.1 vs = false := by
        unfold hasT
        rw [List.any_eq_false]
        intro q hq z
        rw [Bool.and_eq_true] at z
        exact out q hq (eq_of_beq z.1)
      rw [no, Bool.or_false, beq_self_eq_true, Bool.true_and]; rfl
    · rw [if_neg e, lastV_has hv h.2, beq_eq_false_iff_ne.mpr e, Bool.false_and, Bool.false_or]
end L
namespace L
open PySem TH
theorem compL_map {Y : Type} {W : Sto → Prop} {step : D → Sto → (Option D → Sto → Prop) → Prop} {fin : List D → Sto → Prop} {S : Sto} (g : Y → D) (f : Y → Option D) (hW : W S) : ∀ (ys : List Y), (∀ y ∈ ys, ∀ k : Option D → Sto → Prop, k (f y) S → step (g y) S k) → ∀ acc, fin (acc ++ ys.filterMap f) S → compL W step fin (ys.map g) acc S
  | [], h, acc, q => ⟨hW, by simpa using q⟩
  | y :: ys, h, acc, q => by
    refine ⟨hW, h y List.mem_cons_self _ ?_⟩
    have ih := compL_map (W := W) (step := step) (fin := fin) g f hW ys fun z hz => h z (List.mem_cons_of_mem _ hz)
    cases e : f y with
    | none =>
      refine ih acc ?_
      rw [List.filterMap_cons, e] at q
      exact q
    | some d =>
      refine ih _ ?_
      rw [List.filterMap_cons, e] at q
      rw [List.append_assoc]
      exact q
theorem all_scl : ∀ vs : List Str, (vs.map D.str).all D.scl = true
  | [] => rfl
  | v :: vs => by rw [List.map_cons, List.all_cons, all_scl vs]; rfl
theorem mem_vals {z : Str} {vs : List Str} {S : Sto} {Q : Bool → Prop} : memR (.str z) (.tup (vs.map D.str)) S Q = Q (vs.any fun v => v == z) := by
  show inR (.str z) (vs.map D.str) S Q = _
  unfold inR
  rw [all_scl]
  show Q ((vs.map D.str).any fun y => D.eqv y (.str z)) = _
  rw [List.any_map]
  rfl
theorem bls_map {Y : Type} (b : Y → Bool) : ∀ cs : List Y, blsOf (cs.filterMap fun c => some (D.bl (b c))) = some (cs.map b)
  | [] => rfl
  | c :: cs => by
    rw [List.filterMap_cons]
    show (blsOf (cs.filterMap fun c => some (D.bl (b c)))).map (b c :: ·) = _
    rw [bls_map b cs]; rfl
theorem getD_str (o : Option Str) : (o.map D.str).getD (.str "") = .str (o.getD "") := by cases o <;> rfl
theorem fm_tg : ∀ l : List (Str × Str), l.filterMap (fun p => some (tg p)) = l.map tg
  | [] => rfl
  | p :: l => by rw [List.filterMap_cons, List.map_cons, fm_tg l]
def cndB (l : List (Str × Str)) (c : Cnd) : Bool := (c.2.2.any fun v => v == ((lastV c.1 none l).getD "")) == (c.2.1 == ("in" : Str))
def pickB (w nw : Str) (cs : List Cnd) (l : List (Str × Str)) : Bool := (("" : Str) == w || (nw == w || false)) && (cs.map (cndB l)).all id
theorem pick_ok (k : Nat) (w nw : Str) (cs : List Cnd) (l : List (Str × Str)) (S : Sto) (Q : D → Sto → Prop) (E : Nat → List D → Sto → Prop) (q : Q (.bl (pickB w nw cs l)) S) :
    Phi Pr (k + 1) 11 [.tup [.str w, .tup (cs.map cd)], .tup [.str nw, .tup (l.map tg)]] S Q E := by
  refine Phi_fn (ε := [some (.tup [.str w, .tup (cs.map cd)]), some (.tup [.str nw, .tup (l.map tg)]), none, none, none, none, none]) rfl rfl rfl ?_
  dsimp only [b_pick]
  try dsimp only [wpSs, wpS, wpE, wpT, wpA, wpI, wpTs, getV, setV, setVs, wipeV, asgT, iterR, isiR, tyOf, subTy, tyB, optI, bfR, seqOf, lstOf, cmpR, newL, binR, idxR]
  try simp only [eqR_ii, eqR_ss, eqR_bb, ix20, ix21, ix30, ix31, ix32, lenk2, lenk3, pcs0, pcs1, pcs2, pcs3, pcs4, Bool.not_true, Bool.not_false, if_true, if_false, Bool.false_eq_true, reduceCtorEq, ite_true, ite_false]
  try dsimp only [wpSs, wpS, wpE, wpT, wpA, wpI, wpTs, getV, setV, setVs, wipeV, asgT, iterR, isiR, tyOf, subTy, tyB, optI, bfR, seqOf, lstOf, cmpR, newL, binR, idxR]
  rw [mem_in]
  unfold pickB at q
  cases hb : (("" : Str) == w || (nw == w || false))
  · rw [hb] at q
    try simp only [eqR_ii, eqR_ss, eqR_bb, ix20, ix21, ix30, ix31, ix32, lenk2, lenk3, pcs0, pcs1, pcs2, pcs3, pcs4, Bool.not_true, Bool.not_false, if_true, if_false, Bool.false_eq_true, reduceCtorEq, ite_true, ite_false]
    exact Fin.here q
  · rw [hb] at q
    try simp only [eqR_ii, eqR_ss, eqR_bb, ix20, ix21, ix30, ix31, ix32, lenk2, lenk3, pcs0, pcs1, pcs2, pcs3, pcs4, Bool.not_true, Bool.not_false, if_true, if_false, Bool.false_eq_true, reduceCtorEq, ite_true, ite_false]
    refine compL_map tg (fun p => some (tg p)) trivial _ ?_ [] ?_
    · intro p hp kk hk
      exact ⟨rfl, rfl, hk⟩
    · have e : ([] : List D) ++ l.filterMap (fun p => some (tg p)) = l.map tg := by rw [List.nil_append]; exact fm_tg l
      rw [e, pairs_tg]
      show compL _ _ _ _ [] S
      refine compL_map cd (fun c => some (.bl (cndB l c))) trivial _ ?_ [] ?_
      · intro c hc kk hk
        refine ⟨rfl, rfl, rfl, ?_⟩
        rw [show getK (D.str c.1) (mkDic (l.map prD)) = (lastV c.1 none l).map D.str from getK_mk c.1 l [] none rfl, getD_str]
        show memR (.str ((lastV c.1 none l).getD "")) (.tup (c.2.2.map D.str)) S _
        rw [mem_vals]
        exact hk
      · rw [List.nil_append, bls_map]
        exact Fin.here q
theorem picks_ok (k : Nat) (w nw : Str) (cs : List Cnd) (l : List (Str × Str)) (S : Sto) (Q : D → Sto → Prop) (E : Nat → List D → Sto → Prop) (h : PickOk w cs) (hw : runB nw lowA 8 = true) (wl : nw.length ≤ SZ) (hl : l.length ≤ 4) (ht : ∀ p ∈ l, TagOk p) (hr : Rises (l.map (·.1)))
    (q : Q (.bl (pickB w nw cs l)) S) : Phi Pr (k + 6) 12 [.tup [.str w, .tup (cs.map cd)], .tup [.str nw, .tup (l.map tg)]] S Q E := by
  refine Phi_fn (ε := [some (.tup [.str w, .tup (cs.map cd)]), some (.tup [.str nw, .tup (l.map tg)])]) rfl rfl rfl ?_
  dsimp only [b_picks]
  try dsimp only [wpSs, wpS, wpE, wpT, wpA, wpI, wpTs, getV, setV, setVs, wipeV, asgT, iterR, isiR, tyOf, subTy, tyB, optI, bfR, seqOf, lstOf, cmpR, newL, binR, idxR]
  refine need_picker_ok _ _ _ _ _ _ h ?_
  refine need_name_ok _ _ _ _ _ _ hw wl hl ht hr ?_
  exact pick_ok _ _ _ _ _ _ _ _ (Fin.here q)
/-! ### the law's own look -/
def lawB (w nw : Str) (cs : List Cnd) (l : List (Str × Str)) : Bool := cs.foldl (fun g c => g && ((hasT l c.1 c.2.2) == (c.2.1 == ("in" : Str)))) ((w == ("" : Str)) || (w == nw))
theorem fm_has (l : List (Str × Str)) (key : Str) (vs : List Str) : (l.filterMap fun p => if (p.1 == key && vs.any fun v => v == p.2) = true then some (D.str p.2) else none).isEmpty = !hasT l key vs := by
  induction l with
  | nil => rfl
  | cons p l ih =>
    rw [List.filterMap_cons]
    unfold hasT at ih ⊢
    rw [List.any_cons]
    cases h : (p.1 == key && vs.any fun v => v == p.2)
    · rw [if_neg (by decide)]
      exact ih
    · rw [if_pos rfl]; rfl
theorem fm_scl (l : List (Str × Str)) (b : Str × Str → Bool) : (l.filterMap fun p => if b p = true then some (D.str p.2) else none).all D.scl = true := by
  induction l with
  | nil => rfl
  | cons p l ih =>
    rw [List.filterMap_cons]
    cases h : b p
    · rw [if_neg (by decide)]; exact ih
    · rw [if_pos rfl]
      show (true && _) = true
      rw [ih]; rfl
theorem foldl_and (f : Cnd → Bool) : ∀ (cs : List Cnd) (g : Bool), cs.foldl (fun g c => g && f c) g = (g && (cs.map f).all id)
  | [], g => by show g = (g && true); rw [Bool.and_true]
  | c :: cs, g => by
    rw [List.foldl_cons, foldl_and f cs, List.map_cons, List.all_cons, Bool.and_assoc]
    rfl
theorem same_B (w nw : Str) (cs : List Cnd) (l : List (Str × Str)) (hr : Rises (l.map (·.1))) (hv : ∀ c ∈ cs, ("" : Str) ∉ c.2.2) : pickB w nw cs l = lawB w nw cs l := by
  unfold pickB lawB
  rw [foldl_and fun c => (hasT l c.1 c.2.2) == (c.2.1 == ("in" : Str))]
  have e1 : (("" : Str) == w || (nw == w || false)) = ((w == ("" : Str)) || (w == nw)) := by
    rw [Bool.or_false, Bool.beq_comm, Bool.beq_comm (a := nw)]
  have e2 : cs.map (cndB l) = cs.map fun c => (hasT l c.1 c.2.2) == (c.2.1 == ("in" : Str)) := List.map_congr_left fun c hc => by
    unfold cndB
    rw [lastV_has (hv c hc) hr]
  rw [e1, e2]
/-! ### alike: two bools -/
end L
namespace L
open PySem TH
/-! ### dice -/
def Dg (dl : List D) : Prop := ∃ (a b : Int) (r : List Int), dl = .int a :: .int b :: r.map D.int
def Dn (S : Sto) (n : Nat) : Prop := ∃ dl, S n = some (.lst dl) ∧ Dg dl
structure DS (S : Sto) (n : Nat) (S' : Sto) : Prop where
  keep : ∀ m o, m ≠ n → S m = some o → S' m = some o
  dn : Dn S' n
theorem DS.refl {S : Sto} {n : Nat} (h : Dn S n) : DS S n S := ⟨fun _ _ _ h => h, h⟩
theorem DS.trans {S S' S'' : Sto} {n : Nat} (a : DS S n S') (b : DS S' n S'') : DS S n S'' := ⟨fun m o h e => b.keep m o h (a.keep m o h e), b.dn⟩
theorem DS.set {S : Sto} {n : Nat} {dl : List D} (h : Dg dl) : DS S n (S.set n (.lst dl)) := ⟨fun m o hm e => by rw [Sto.set_ne hm]; exact e, dl, Sto.set_same, h⟩
/-- a new object beside -/
theorem DS.new {S : Sto} {n m : Nat} {o : O} (h : Dn S n) (hm : S m = none) : DS S n (S.set m o) :=
  ⟨fun j o' hj e => by rw [Sto.set_ne fun z => by rw [z, hm] at e; cases e]; exact e, by
    obtain ⟨dl, e, g⟩ := h
    exact ⟨dl, by rw [Sto.set_ne fun z => by rw [z, hm] at e; cases e]; exact e, g⟩⟩
section
variable {a b : D} {r : List D}
theorem ixc0 : ((ixD (a :: b :: r).length 0).bind fun j => (a :: b :: r)[j]?) = some a := by
  have e : ixD (a :: b :: r).length ((0 : Nat) : Int) = some 0 := ixD_nat (by simp)
  have e : ixD (a :: b :: r).length 0 = some 0 := e
  rw [e]; rfl
theorem ixc1 : ((ixD (a :: b :: r).length 1).bind fun j => (a :: b :: r)[j]?) = some b := by
  have e : ixD (a :: b :: r).length ((1 : Nat) : Int) = some 1 := ixD_nat (by simp)
  have e : ixD (a :: b :: r).length 1 = some 1 := e
  rw [e]; rfl
theorem ixd0 : ixD (a :: b :: r).length 0 = some 0 := by
  have e : ixD (a :: b :: r).length ((0 : Nat) : Int) = some 0 := ixD_nat (by simp)
  exact e
theorem ixd1 : ixD (a :: b :: r).length 1 = some 1 := by
  have e : ixD (a :: b :: r).length ((1 : Nat) : Int) = some 1 := ixD_nat (by simp)
  exact e
end
def tailOf : ISs → ISs
  | .cons _ r => r
  | x => x
theorem off_tail (k : Nat) (n : Nat) (u : Int) (hu : 0 < u) (hu2 : u < 1073741824) (Q : D → Sto → Prop) (N : En) (hN : ∀ r S, Q (.int r) S → N.rt (.int r) S) (S : Sto) (a b : Int) (r : List Int) (hn : S n = some (.lst (.int a :: .int b :: r.map D.int)))
    (q : ∀ r S', 0 ≤ r → r < u → DS S n S' → Q (.int r) S') : wpSs Pr (Phi Pr k) (tailOf b__law_off) [some (.ref n), some (.int u), none] S N := by
  dsimp only [b__law_off, tailOf]
  try dsimp only [wpSs, wpS, wpE, wpT, wpA, wpI, wpTs, getV, setV, setVs, wipeV, asgT, iterR, isiR, tyOf, subTy, tyB, optI, bfR, seqOf, lstOf, cmpR, newL, binR, idxR]
  simp only [hn]
  rw [ixc1]
  try dsimp only [wpSs, wpS, wpE, wpT, wpA, wpI, wpTs, getV, setV, setVs, wipeV, asgT, iterR, isiR, tyOf, subTy, tyB, optI, bfR, seqOf, lstOf, cmpR, newL, binR, idxR]
  by_cases hb : 0 < b
  · rw [if_pos (decide_eq_true hb)]
    refine ⟨hu, ?_⟩
    try dsimp only [wpSs, wpS, wpE, wpT, wpA, wpI, wpTs, getV, setV, setVs, wipeV, asgT, iterR, isiR, tyOf, subTy, tyB, optI, bfR, seqOf, lstOf, cmpR, newL, binR, idxR]
    refine ⟨hu, hu2, ?_⟩
    try dsimp only [wpSs, wpS, wpE, wpT, wpA, wpI, wpTs, getV, setV, setVs, wipeV, asgT, iterR, isiR, tyOf, subTy, tyB, optI, bfR, seqOf, lstOf, cmpR, newL, binR, idxR]
    unfold subR
    simp only [hn]
    rw [ixd1]
    try dsimp only [wpSs, wpS, wpE, wpT, wpA, wpI, wpTs, getV, setV, setVs, wipeV, asgT, iterR, isiR, tyOf, subTy, tyB, optI, bfR, seqOf, lstOf, cmpR, newL, binR, idxR]
    exact hN _ _ (q _ _ (Int.emod_nonneg _ (by omega)) (Int.emod_lt_of_pos _ hu) (DS.set ⟨a, b / u, r, rfl⟩))
  · rw [if_neg (by rw [decide_eq_false hb]; decide)]
    try dsimp only [wpSs, wpS, wpE, wpT, wpA, wpI, wpTs, getV, setV, setVs, wipeV, asgT, iterR, isiR, tyOf, subTy, tyB, optI, bfR, seqOf, lstOf, cmpR, newL, binR, idxR]
    rw [ixc0]
    try dsimp only [wpSs, wpS, wpE, wpT, wpA, wpI, wpTs, getV, setV, setVs, wipeV, asgT, iterR, isiR, tyOf, subTy, tyB, optI, bfR, seqOf, lstOf, cmpR, newL, binR, idxR]
    refine ⟨.inr ⟨by decide, by decide⟩, ?_⟩
    refine ⟨by decide, ?_⟩
    try dsimp only [wpSs, wpS, wpE, wpT, wpA, wpI, wpTs, getV, setV, setVs, wipeV, asgT, iterR, isiR, tyOf, subTy, tyB, optI, bfR, seqOf, lstOf, cmpR, newL, binR, idxR]
    unfold subR
    simp only [hn]
    rw [ixd0]
    try dsimp only [wpSs, wpS, wpE, wpT, wpA, wpI, wpTs, getV, setV, setVs, wipeV, asgT, iterR, isiR, tyOf, subTy, tyB, optI, bfR, seqOf, lstOf, cmpR, newL, binR, idxR]
    simp only [Sto.set_same]
    have e : (D.int a :: D.int b :: r.map D.int).set 0 (.int ((a * 48271 + 11) % 2147483647)) = .int ((a * 48271 + 11) % 2147483647) :: .int b :: r.map D.int := rfl
    rw [e, ixc0]
    try dsimp only [wpSs, wpS, wpE, wpT, wpA, wpI, wpTs, getV, setV, setVs, wipeV, asgT, iterR, isiR, tyOf, subTy, tyB, optI, bfR, seqOf, lstOf, cmpR, newL, binR, idxR]
    refine ⟨by decide, by decide, hu, ?_⟩
    exact hN _ _ (q _ _ (Int.emod_nonneg _ (by omega)) (Int.emod_lt_of_pos _ hu) (DS.set ⟨_, b, r, rfl⟩))
theorem off_ok (k : Nat) (n : Nat) (u : Int) (hu : 0 < u) (hu2 : u < 1073741824) (S : Sto) (Q : D → Sto → Prop) (E : Nat → List D → Sto → Prop) (hd : Dn S n) (q : ∀ r S', 0 ≤ r → r < u → DS S n S' → Q (.int r) S') : Phi Pr (k + 1) 19 [.ref n, .int u] S Q E := by
  obtain ⟨dl, hn, a, b, r, rfl⟩ := hd
  refine Phi_fn (ε := [some (.ref n), some (.int u), none]) rfl rfl rfl ?_
  have tail := fun S a b r hn q => off_tail k n u hu hu2 Q { nx := fun _ S1 => TH.Fin Q .non S1, rt := fun d S1 => TH.Fin Q d S1, ex := fun c l _ S1 => FinX E c l S1 } (fun r S h => Fin.here h) S a b r hn q
  have t0 := tail S a b r hn q
  dsimp only [b__law_off, tailOf] at t0 tail
  show wpSs Pr (Phi Pr k) b__law_off _ S _
  unfold b__law_off
  rw [show ∀ (s : IS) (r : ISs) ε S N, wpSs Pr (Phi Pr k) (.cons s r) ε S N = wpS Pr (Phi Pr k) s ε S { N with nx := fun ε1 S1 => wpSs Pr (Phi Pr k) r ε1 S1 N } from fun _ _ _ _ _ => rfl]
  generalize hR : (fun ε1 S1 => wpSs Pr (Phi Pr k) (.cons (.if_ (.cmp .gt (.idx (.var 0) (.cst (.int 1))) (.cst (.int 0))) _ _) _) ε1 S1 _) = R
  try dsimp only [wpSs, wpS, wpE, wpT, wpA, wpI, wpTs, getV, setV, setVs, wipeV, asgT, iterR, isiR, tyOf, subTy, tyB, optI, bfR, seqOf, lstOf, cmpR, newL, binR, idxR]
  simp only [hn]
  rw [ixc1]
  try dsimp only [wpSs, wpS, wpE, wpT, wpA, wpI, wpTs, getV, setV, setVs, wipeV, asgT, iterR, isiR, tyOf, subTy, tyB, optI, bfR, seqOf, lstOf, cmpR, newL, binR, idxR]
  try simp only [eqR_ii, eqR_ss, eqR_bb, ix20, ix21, ix30, ix31, ix32, lenk2, lenk3, pcs0, pcs1, pcs2, pcs3, pcs4, Bool.not_true, Bool.not_false, if_true, if_false, Bool.false_eq_true, reduceCtorEq, ite_true, ite_false]
  cases hb : (b == 0)
  · try simp only [eqR_ii, eqR_ss, eqR_bb, ix20, ix21, ix30, ix31, ix32, lenk2, lenk3, pcs0, pcs1, pcs2, pcs3, pcs4, Bool.not_true, Bool.not_false, if_true, if_false, Bool.false_eq_true, reduceCtorEq, ite_true, ite_false]
    rw [← hR]
    exact t0
  · try simp only [eqR_ii, eqR_ss, eqR_bb, ix20, ix21, ix30, ix31, ix32, lenk2, lenk3, pcs0, pcs1, pcs2, pcs3, pcs4, Bool.not_true, Bool.not_false, if_true, if_false, Bool.false_eq_true, reduceCtorEq, ite_true, ite_false]
    by_cases hl : (2 : Int) < (((D.int a :: D.int b :: r.map D.int).length : Nat) : Int)
    · rw [decide_eq_true hl]
      try simp only [eqR_ii, eqR_ss, eqR_bb, ix20, ix21, ix30, ix31, ix32, lenk2, lenk3, pcs0, pcs1, pcs2, pcs3, pcs4, Bool.not_true, Bool.not_false, if_true, if_false, Bool.false_eq_true, reduceCtorEq, ite_true, ite_false]
      cases r with
      | nil => exact absurd hl (by simp)
      | cons c r =>
        dsimp only [bmR, bmD, lstM]
        have hn : S n = some (.lst (.int a :: .int b :: .int c :: r.map D.int)) := hn
        simp only [hn]
        refine ⟨rfl, ⟨by decide, by decide⟩, ?_⟩
        have e : ixD (D.int a :: D.int b :: D.int c :: r.map D.int).length ((2 : Nat) : Int) = some 2 := ixD_nat (by simp)
        have e : ixD (D.int a :: D.int b :: D.int c :: r.map D.int).length 2 = some 2 := e
        rw [e]
        show subR (.ref n) (.int 1) (.int c) (S.set n (.lst (.int a :: .int b :: r.map D.int))) fun S4 => R [some (D.ref n), some (D.int u), none] S4
        unfold subR
        simp only [Sto.set_same]
        rw [ixd1]
        rw [← hR]
        refine tail _ a c r Sto.set_same fun r' S' h1 h2 h3 => q r' S' h1 h2 ?_
        exact (DS.set (S := S) (n := n) (dl := .int a :: .int b :: r.map D.int) ⟨a, b, r, rfl⟩).trans ((DS.set ⟨a, c, r, rfl⟩).trans h3)
    · rw [decide_eq_false hl]
      try simp only [eqR_ii, eqR_ss, eqR_bb, ix20, ix21, ix30, ix31, ix32, lenk2, lenk3, pcs0, pcs1, pcs2, pcs3, pcs4, Bool.not_true, Bool.not_false, if_true, if_false, Bool.false_eq_true, reduceCtorEq, ite_true, ite_false]
      rw [← hR]
      exact t0
theorem dice_ok (k : Nat) (ns : List Int) (hl : ns.length ≤ 63) (S : Sto) (Q : D → Sto → Prop) (E : Nat → List D → Sto → Prop) (hS : S 0 = some (.rol (ns.map D.int))) (q : ∀ n S', S n = none → (∀ m o, S m = some o → S' m = some o) → Dn S' n → Q (.ref n) S') : Phi Pr (k + 1) 18 [.ref 0, .int 0] S Q E := by
  refine Phi_fn (ε := [some (.ref 0), some (.int 0), none, none]) rfl rfl rfl ?_
  dsimp only [b__law_dice]
  try dsimp only [wpSs, wpS, wpE, wpT, wpA, wpI, wpTs, getV, setV, setVs, wipeV, asgT, iterR, isiR, tyOf, subTy, tyB, optI, bfR, seqOf, lstOf, cmpR, newL, binR, idxR]
  simp only [hS]
  refine walkL_inv (fun r ε' S' => S' = S ∧ (∀ x ∈ r, ∃ i, x = .int i) ∧ ∃ f o, ε' = [some (.ref 0), some (.int 0), some (.int f), o]) ?_ ?_ ?_ _ _ _ ⟨rfl, ?_, 0, none, rfl⟩
  · rintro r ε' S' ⟨rfl, _⟩
    exact hS
  · rintro x r ε' S' kk ⟨rfl, hx, f, o, rfl⟩ hk
    obtain ⟨i, rfl⟩ := hx x List.mem_cons_self
    try dsimp only [wpSs, wpS, wpE, wpT, wpA, wpI, wpTs, getV, setV, setVs, wipeV, asgT, iterR, isiR, tyOf, subTy, tyB, optI, bfR, seqOf, lstOf, cmpR, newL, binR, idxR]
    refine ⟨.inr ⟨by decide, by decide⟩, ?_⟩
    refine ⟨by decide, ?_⟩
    exact hk _ _ ⟨rfl, fun x h => hx x (List.mem_cons_of_mem _ h), _, _, rfl⟩
  · rintro ε' S' ⟨rfl, _, f, o, rfl⟩
    try dsimp only [wpSs, wpS, wpE, wpT, wpA, wpI, wpTs, getV, setV, setVs, wipeV, asgT, iterR, isiR, tyOf, subTy, tyB, optI, bfR, seqOf, lstOf, cmpR, newL, binR, idxR]
    simp only [hS]
    refine compL_map D.int (fun i => if decide ((1000000000000000000 : Int) ≤ i) = true then some (.int i) else none) hS ns ?_ [] ?_
    · intro i hi kk hk
      refine ⟨by decide, ?_⟩
      cases h : decide ((1000000000000000000 : Int) ≤ i)
      · rw [h] at hk
        show if decide ((10 : Int) ^ (Int.toNat 18) ≤ i) = true then _ else _
        rw [show ((10 : Int) ^ (Int.toNat 18)) = 1000000000000000000 from by decide, h]
        exact hk
      · rw [h] at hk
        show if decide ((10 : Int) ^ (Int.toNat 18) ≤ i) = true then _ else _
        rw [show ((10 : Int) ^ (Int.toNat 18)) = 1000000000000000000 from by decide, h]
        exact hk
    · rw [List.nil_append]
      dsimp only [lstM]
      have e : ns.filterMap (fun i => if decide ((1000000000000000000 : Int) ≤ i) = true then some (D.int i) else none) = (ns.filter fun i => decide ((1000000000000000000 : Int) ≤ i)).map D.int := by
        clear hl hS q
        induction ns with
        | nil => rfl
        | cons i ns ih =>
          rw [List.filterMap_cons, List.filter_cons, ih]
          cases h : decide ((1000000000000000000 : Int) ≤ i)
          · rfl
          · rfl
      rw [e]
      have hle : (ns.filter fun i => decide ((1000000000000000000 : Int) ≤ i)).length ≤ ns.length := List.length_filter_le _ _
      refine ⟨by rw [List.length_map]; show 2 + _ ≤ 16777216; omega, fun n hn => ?_⟩
      exact Fin.here (q n _ hn (fun m o h => by rw [Sto.set_ne fun z => by rw [z, hn] at h; cases h]; exact h) ⟨_, Sto.set_same, f, 0, _, rfl⟩)
  · intro x hx
    obtain ⟨i, _, rfl⟩ := List.mem_map.mp hx
    exact ⟨i, rfl⟩
end L
namespace L
open PySem TH
theorem lst_nil {S : Sto} {m : Nat} {L : List Str} {Q : Bool → Prop} (e : S m = some (.lst (L.map D.str))) (q : Q L.isEmpty) : eqR (.ref m) (.ilst []) S Q := by
  refine ⟨.ilst (L.map D.str), .ilst [], .ref e (RsL.self_scl (all_scl L)), .ilst .nil, Nat.le_trans (Nat.min_le_right _ _) (by decide), ?_⟩
  have h : D.eqv (.ilst (L.map D.str)) (.ilst []) = L.isEmpty := by cases L <;> rfl
  rw [h]; exact q
theorem map_erase (L : List Str) (j : Nat) : (L.map D.str).eraseIdx j = (L.eraseIdx j).map D.str := by
  induction L generalizing j with
  | nil => rfl
  | cons x L ih =>
    cases j with
    | zero => rfl
    | succ j =>
      show D.str x :: (L.map D.str).eraseIdx j = D.str x :: (L.eraseIdx j).map D.str
      rw [ih]
theorem perm_erase (L : List Str) (j : Nat) (h : j < L.length) : (L[j] :: L.eraseIdx j).Perm L := by
  induction L generalizing j with
  | nil => cases h
  | cons x L ih =>
    cases j with
    | zero => exact .refl _
    | succ j =>
      show (L[j]'(Nat.lt_of_succ_lt_succ h) :: x :: L.eraseIdx j).Perm (x :: L)
      exact (List.Perm.swap _ _ _).trans ((ih j (Nat.lt_of_succ_lt_succ h)).cons x)
theorem st_ne {S : Sto} {m j : Nat} {o : O} (e : S m = some o) (h : S j = none) : m ≠ j := fun z => by rw [z, h] at e; cases e
theorem mixed_ok (k : Nat) (n : Nat) (row : List Str) (hrow : row.length ≤ 1000) (S : Sto) (Q : D → Sto → Prop) (E : Nat → List D → Sto → Prop) (hd : Dn S n) (q : ∀ (F : List Str) (S' : Sto), F.Perm row → DS S n S' → Q (.ilst (F.map D.str)) S') : Phi Pr (k + 2) 20 [.ref n, .ilst (row.map D.str)] S Q E := by
  refine Phi_fn (ε := [some (.ref n), some (.ilst (row.map D.str)), none, none]) rfl rfl rfl ?_
  dsimp only [b__law_mixed]
  try dsimp only [wpSs, wpS, wpE, wpT, wpA, wpI, wpTs, getV, setV, setVs, wipeV, asgT, iterR, isiR, tyOf, subTy, tyB, optI, bfR, seqOf, lstOf, cmpR, newL, binR, idxR]
  intro m1 h1 m2 h2
  have hnS : S n ≠ none := fun z => by obtain ⟨dl, e, _⟩ := hd; rw [z] at e; cases e
  have n1 : m1 ≠ n := fun z => hnS (z ▸ h1)
  have n12 : m2 ≠ m1 := fun z => by rw [z, Sto.set_same] at h2; cases h2
  have h2S : S m2 = none := by rw [Sto.set_ne n12] at h2; exact h2
  have n2 : m2 ≠ n := fun z => hnS (z ▸ h2S)
  refine ⟨fun m ε' S' => ∃ F L : List Str, m = L.length ∧ ε' = [some (.ref n), some (.ilst (row.map D.str)), some (.ref m1), some (.ref m2)] ∧ S' m1 = some (.lst (L.map D.str)) ∧ S' m2 = some (.lst (F.map D.str)) ∧ (F ++ L).Perm row ∧ (∀ m o, m ≠ n → S m = some o → S' m = some o) ∧ Dn S' n, ⟨row.length, [], row, rfl, rfl, ?_, Sto.set_same, .refl _, ?_, ?_⟩, ?_⟩
  · rw [Sto.set_ne (Ne.symm n12)]; exact Sto.set_same
  · intro m o _ e
    rw [Sto.set_ne (st_ne e h2S), Sto.set_ne (st_ne e h1)]; exact e
  · obtain ⟨dl, e, g⟩ := hd
    exact ⟨dl, by rw [Sto.set_ne (Ne.symm n2), Sto.set_ne (Ne.symm n1)]; exact e, g⟩
  · rintro m ε' S' ⟨F, L, rfl, rfl, e1, e2, pm, kp, dn⟩
    try dsimp only [wpSs, wpS, wpE, wpT, wpA, wpI, wpTs, getV, setV, setVs, wipeV, asgT, iterR, isiR, tyOf, subTy, tyB, optI, bfR, seqOf, lstOf, cmpR, newL, binR, idxR]
    refine lst_nil e1 ?_
    have hlen : F.length + L.length = row.length := by rw [← List.length_append]; exact pm.length_eq
    cases L with
    | nil =>
      try simp only [eqR_ii, eqR_ss, eqR_bb, ix20, ix21, ix30, ix31, ix32, lenk2, lenk3, pcs0, pcs1, pcs2, pcs3, pcs4, Bool.not_true, Bool.not_false, if_true, if_false, Bool.false_eq_true, reduceCtorEq, ite_true, ite_false]
      refine Fin.lst (S' := S'.del m2) e2 (fun j o e => ?_) (by show (if m2 = m2 then none else _) = none; rw [if_pos rfl]) (q F _ (by rw [List.append_nil] at pm; exact pm) ⟨fun j o hj e => ?_, ?_⟩)
      · have e : (if j = m2 then none else S' j) = some o := e
        split at e
        · cases e
        · exact e
      · show (if j = m2 then none else S' j) = some o
        rw [if_neg (st_ne e h2S)]
        exact kp j o hj e
      · obtain ⟨dl, e, g⟩ := dn
        exact ⟨dl, by show (if n = m2 then none else S' n) = _; rw [if_neg (Ne.symm n2)]; exact e, g⟩
    | cons x L =>
      try simp only [eqR_ii, eqR_ss, eqR_bb, ix20, ix21, ix30, ix31, ix32, lenk2, lenk3, pcs0, pcs1, pcs2, pcs3, pcs4, Bool.not_true, Bool.not_false, if_true, if_false, Bool.false_eq_true, reduceCtorEq, ite_true, ite_false]
      dsimp only [bmD, lstM]
      simp only [e1, e2]
      refine ⟨rfl, rfl, ?_⟩
      have hl1 : (((x :: L).map D.str).length : Int) = ((x :: L).length : Nat) := by rw [List.length_map]
      rw [hl1]
      have hL : (x :: L).length ≤ 1000 := by omega
      refine off_ok _ _ _ (by show (0 : Int) < ((L.length + 1 : Nat) : Int); omega) (by omega) _ _ _ dn fun r S2 r0 r1 ds => ?_
      obtain ⟨j, rfl⟩ : ∃ j : Nat, r = j := ⟨r.toNat, by omega⟩
      have hj : j < (x :: L).length := by omega
      have e1' := ds.keep m1 _ n1 e1
      have e2' := ds.keep m2 _ n2 e2
      dsimp only [bmR]
      simp only [e1']
      refine ⟨⟨by omega, by omega⟩, ?_⟩
      rw [ixD_nat (by rw [List.length_map]; exact hj)]
      dsimp only
      rw [List.getElem?_map, List.getElem?_eq_getElem hj]
      dsimp only [Option.map]
      rw [Sto.set_ne n12]
      simp only [e2']
      refine ⟨by rw [List.length_map]; show F.length < 16777216; omega, (x :: L).eraseIdx j |>.length, ?_, F ++ [(x :: L)[j]], (x :: L).eraseIdx j, rfl, trivial, ?_, ?_, ?_, ?_, ?_⟩
      · rw [List.length_eraseIdx_of_lt hj]; exact Nat.sub_lt (Nat.succ_pos _) Nat.one_pos
      · rw [Sto.set_ne (Ne.symm n12), Sto.set_same, map_erase]
      · rw [Sto.set_same, List.map_append]; rfl
      · rw [List.append_assoc]
        exact (List.Perm.append_left F (perm_erase (x :: L) j hj)).trans pm
      · intro m o hm e
        rw [Sto.set_ne (st_ne e h2S), Sto.set_ne (st_ne e h1)]
        exact ds.keep m o hm (kp m o hm e)
      · obtain ⟨dl, e, g⟩ := ds.dn
        exact ⟨dl, by rw [Sto.set_ne (Ne.symm n2), Sto.set_ne (Ne.symm n1)]; exact e, g⟩
end L
namespace L
open PySem TH
def keysL : List Str := ["a", "b", "room"]
def valsL : List Str := ["x", "y", "1"]
theorem pick3 {a b c : D} {r : Int} (h0 : 0 ≤ r) (h3 : r < 3) : ∃ d, ((ixD [a, b, c].length r).bind fun j => [a, b, c][j]?) = some d ∧ (d = a ∨ d = b ∨ d = c) := by
  have : r = 0 ∨ r = 1 ∨ r = 2 := by omega
  rcases this with rfl | rfl | rfl
  · exact ⟨a, rfl, .inl rfl⟩
  · exact ⟨b, rfl, .inr (.inl rfl)⟩
  · exact ⟨c, rfl, .inr (.inr rfl)⟩
theorem pick2 {a b : D} {r : Int} (h0 : 0 ≤ r) (h3 : r < 2) : ∃ d, ((ixD [a, b].length r).bind fun j => [a, b][j]?) = some d ∧ (d = a ∨ d = b) := by
  have : r = 0 ∨ r = 1 := by omega
  rcases this with rfl | rfl
  · exact ⟨a, rfl, .inl rfl⟩
  · exact ⟨b, rfl, .inr rfl⟩
/-- a word of a row -/
theorem pickW {ws : List Str} {r : Int} (h0 : 0 ≤ r) (h3 : r < ws.length) : ∃ w ∈ ws, ((ixD (ws.map D.str).length r).bind fun j => (ws.map D.str)[j]?) = some (.str w) := by
  obtain ⟨j, rfl⟩ : ∃ j : Nat, r = j := ⟨r.toNat, by omega⟩
  have hj : j < ws.length := by omega
  refine ⟨ws[j], List.getElem_mem hj, ?_⟩
  rw [ixD_nat (by rw [List.length_map]; exact hj)]
  show (ws.map D.str)[j]? = _
  rw [List.getElem?_map, List.getElem?_eq_getElem hj]; rfl
/-- a list that is built beside the dice -/
structure Bd (S : Sto) (n m : Nat) (l : List D) (S' : Sto) : Prop where
  fr : S m = none
  ls : S' m = some (.lst l)
  kp : ∀ j o, j ≠ n → S j = some o → S' j = some o
  dn : Dn S' n
theorem Bd.ne {S S' : Sto} {n m : Nat} {l : List D} (b : Bd S n m l S') (hd : Dn S n) : m ≠ n := fun z => by
  obtain ⟨dl, e, _⟩ := hd
  rw [← z, b.fr] at e; cases e
theorem Bd.start {S : Sto} {n m : Nat} {l : List D} (hd : Dn S n) (h : S m = none) : Bd S n m l (S.set m (.lst l)) :=
  ⟨h, Sto.set_same, fun j o _ e => by rw [Sto.set_ne (st_ne e h)]; exact e, (DS.new hd h).dn⟩
theorem Bd.step {S S' S'' : Sto} {n m : Nat} {l : List D} (b : Bd S n m l S') (hd : Dn S n) (s : DS S' n S'') : Bd S n m l S'' :=
  ⟨b.fr, s.keep m _ (b.ne hd) b.ls, fun j o h e => s.keep j o h (b.kp j o h e), s.dn⟩
theorem Bd.put {S S' : Sto} {n m : Nat} {l l' : List D} (b : Bd S n m l S') (hd : Dn S n) : Bd S n m l' (S'.set m (.lst l')) :=
  ⟨b.fr, Sto.set_same, fun j o h e => by rw [Sto.set_ne (st_ne e b.fr)]; exact b.kp j o h e, by
    obtain ⟨dl, e, g⟩ := b.dn
    exact ⟨dl, by rw [Sto.set_ne (Ne.symm (b.ne hd))]; exact e, g⟩⟩
theorem Bd.ds {S S' : Sto} {n m : Nat} {l : List D} (b : Bd S n m l S') : DS S n S' := ⟨b.kp, b.dn⟩
theorem strip (a : Str) (k : List Str) (r : List Str) (h : (k ++ (a :: r)).Sublist keysL) : (k ++ r).Sublist keysL := ((List.Sublist.refl k).append (List.sublist_cons_self a r)).trans h
structure TgOk (l : List (Str × Str)) : Prop where
  ks : (l.map (·.1)).Sublist keysL
  vs : ∀ p ∈ l, p.2 ∈ valsL
end L
namespace L
open PySem TH
theorem cut_take (F : List Str) (r : Int) (h0 : 0 ≤ r) : ∃ j : Nat, 1 ≤ j ∧ cutD (F.map D.str) none (some (1 + r)) = (F.take j).map D.str ∨ cutD (F.map D.str) none (some (1 + r)) = (F.take j).map D.str ∧ F.length ≤ j := by
  unfold cutD
  have e0 : slB (F.map D.str).length 0 none = 0 := rfl
  have e1 : slB (F.map D.str).length (F.map D.str).length (some (1 + r)) = min (1 + r).toNat (F.map D.str).length := by
    show (if 1 + r < 0 then _ else _) = _
    rw [if_neg (by omega)]
  rw [e0, e1, List.drop_zero, Nat.sub_zero, List.length_map]
  by_cases h : (1 + r).toNat ≤ F.length
  · refine ⟨(1 + r).toNat, .inl ⟨by omega, ?_⟩⟩
    rw [Nat.min_eq_left h, List.map_take]
  · refine ⟨F.length, .inr ⟨?_, Nat.le_refl _⟩⟩
    rw [Nat.min_eq_right (by omega), List.map_take]
theorem rngL_len' : ∀ (m : Nat) (lo : Int), (rngL lo m).length = m
  | 0, _ => rfl
  | m + 1, lo => by show (rngL (lo + 1) m).length + 1 = _; rw [rngL_len']
theorem strs_map : ∀ l : List Str, strsOf (l.map D.str) = some l
  | [] => rfl
  | s :: l => by
    rw [List.map_cons]
    show (strsOf (l.map D.str)).map (s :: ·) = _
    rw [strs_map l]; rfl
theorem rises_of {l : List Str} (h : l.Pairwise fun a b => strLt b a = false) (nd : l.Nodup) : Rises l := by
  refine (List.Pairwise.and h nd).imp fun {a b} ⟨h1, h2⟩ => ?_
  cases e : strLt a b with
  | true => rfl
  | false => exact absurd (strO.tot a b e h1) h2
/-- a drawn condition -/
structure DcOk (c : Cnd) : Prop where
  k : c.1 ∈ keysL
  h : c.2.1 = "in" ∨ c.2.1 = "out"
  n1 : c.2.2 ≠ []
  v : ∀ s ∈ c.2.2, s ∈ valsL
  r : Rises c.2.2
  n : c.2.2.length ≤ 3
theorem sorted_ok {F G : List Str} (pm : F.Perm valsL) (hG : G.Sublist F) (h1 : G ≠ []) : sortS G ≠ [] ∧ (∀ s ∈ sortS G, s ∈ valsL) ∧ Rises (sortS G) ∧ (sortS G).length ≤ 3 := by
  have p : (sortS G).Perm G := sortO_perm G
  have nd : G.Nodup := hG.nodup (pm.symm.nodup (by unfold valsL; decide +kernel))
  refine ⟨fun z => h1 ?_, fun s hs => pm.mem_iff.mp (hG.subset (p.mem_iff.mp hs)), rises_of (sortO_pw strO G) (p.symm.nodup nd), ?_⟩
  · have := p.length_eq
    rw [z] at this
    exact List.eq_nil_of_length_eq_zero this.symm
  · rw [p.length_eq]
    exact Nat.le_trans hG.length_le (Nat.le_of_eq pm.length_eq)
end L
namespace L
open PySem TH
theorem key_facts : ∀ s ∈ keysL, runB s lowA 6 = true ∧ s.length ≤ SZ := by
  intro s hs
  unfold keysL at hs
  simp only [List.mem_cons, List.not_mem_nil, or_false] at hs
  rcases hs with rfl | rfl | rfl
  · exact ⟨by decide +kernel, by decide +kernel⟩
  · exact ⟨by decide +kernel, by decide +kernel⟩
  · exact ⟨by decide +kernel, by decide +kernel⟩
theorem val_facts : ∀ s ∈ valsL, runB s lowS 6 = true ∧ s.length ≤ SZ ∧ s ≠ "" := by
  intro s hs
  unfold valsL at hs
  simp only [List.mem_cons, List.not_mem_nil, or_false] at hs
  rcases hs with rfl | rfl | rfl
  · exact ⟨by decide +kernel, by decide +kernel, by decide +kernel⟩
  · exact ⟨by decide +kernel, by decide +kernel, by decide +kernel⟩
  · exact ⟨by decide +kernel, by decide +kernel, by decide +kernel⟩
theorem DcOk.cnd {c : Cnd} (h : DcOk c) : CndOk c := ⟨(key_facts _ h.k).1, (key_facts _ h.k).2, h.h, h.n1, Nat.le_trans h.n (by decide), fun s hs => ⟨(val_facts s (h.v s hs)).1, (val_facts s (h.v s hs)).2.1⟩, h.r⟩
theorem keys_rise : Rises keysL := by
  unfold Rises keysL
  refine List.Pairwise.cons ?_ (List.Pairwise.cons ?_ (List.Pairwise.cons ?_ .nil))
  · intro b hb
    simp only [List.mem_cons, List.not_mem_nil, or_false] at hb
    rcases hb with rfl | rfl
    · decide +kernel
    · decide +kernel
  · intro b hb
    simp only [List.mem_cons, List.not_mem_nil, or_false] at hb
    subst hb
    decide +kernel
  · intro b hb; cases hb
def wsP : List Str := ["load", "temp", ""]
def wsN : List Str := ["load", "temp", "aa"]
theorem wsP_facts : ∀ w ∈ wsP, (w = "" ∨ runB w lowA 8 = true) ∧ w.length ≤ SZ := by
  intro s hs
  unfold wsP at hs
  simp only [List.mem_cons, List.not_mem_nil, or_false] at hs
  rcases hs with rfl | rfl | rfl
  · exact ⟨.inr (by decide +kernel), by decide +kernel⟩
  · exact ⟨.inr (by decide +kernel), by decide +kernel⟩
  · exact ⟨.inl rfl, by decide +kernel⟩
theorem wsN_facts : ∀ w ∈ wsN, runB w lowA 8 = true ∧ w.length ≤ SZ := by
  intro s hs
  unfold wsN at hs
  simp only [List.mem_cons, List.not_mem_nil, or_false] at hs
  rcases hs with rfl | rfl | rfl
  · exact ⟨by decide +kernel, by decide +kernel⟩
  · exact ⟨by decide +kernel, by decide +kernel⟩
  · exact ⟨by decide +kernel, by decide +kernel⟩
theorem cut4 (cs : List Cnd) : cutD (cs.map cd) none (some 4) = (cs.take 4).map cd := by
  unfold cutD
  have e0 : slB (cs.map cd).length 0 none = 0 := rfl
  have e1 : slB (cs.map cd).length (cs.map cd).length (some 4) = min 4 (cs.map cd).length := rfl
  rw [e0, e1, List.drop_zero, Nat.sub_zero, List.length_map, List.map_take]
  by_cases h : 4 ≤ cs.length
  · rw [Nat.min_eq_left h]
  · rw [Nat.min_eq_right (by omega), List.take_of_length_le (by rw [List.length_map]; exact Nat.le_refl _), List.take_of_length_le (by rw [List.length_map]; omega)]
end L
namespace L
open PySem TH
/-! ### dicts with text keys, as lists of pairs -/
def gW {α : Type} (k : Str) : List (Str × α) → Option α
  | [] => none
  | (a, b) :: r => if a = k then some b else gW k r
def pW {α : Type} (k : Str) (v : α) : List (Str × α) → List (Str × α)
  | [] => [(k, v)]
  | (a, b) :: r => if a = k then (a, v) :: r else (a, b) :: pW k v r
def dW {α : Type} (e : α → D) (p : Str × α) : D × D := (.str p.1, e p.2)
section
variable {α : Type} (e : α → D)
theorem getK_dW (k : Str) : ∀ l : List (Str × α), getK (.str k) (l.map (dW e)) = (gW k l).map e
  | [] => rfl
  | (a, b) :: r => by
    show (if D.str a = D.str k then some (e b) else getK (.str k) (r.map (dW e))) = _
    unfold gW
    by_cases h : a = k
    · rw [if_pos (by rw [h]), if_pos h]; rfl
    · rw [if_neg fun z => h (D.str.inj z), if_neg h, getK_dW k r]
theorem putKD_dW (k : Str) (v : α) : ∀ l : List (Str × α), putKD (.str k) (e v) (l.map (dW e)) = (pW k v l).map (dW e)
  | [] => rfl
  | (a, b) :: r => by
    show (if D.str a = D.str k then (D.str a, e v) :: r.map (dW e) else (D.str a, e b) :: putKD (.str k) (e v) (r.map (dW e))) = _
    unfold pW
    by_cases h : a = k
    · rw [if_pos (by rw [h]), if_pos h]; rfl
    · rw [if_neg fun z => h (D.str.inj z), if_neg h, putKD_dW k v r]; rfl
theorem gW_pW (k a : Str) (b : α) : ∀ l : List (Str × α), gW k (pW a b l) = if a = k then some b else gW k l
  | [] => rfl
  | (x, y) :: l => by
    unfold pW
    by_cases h : x = a
    · rw [if_pos h]
      subst h
      show (if x = k then some b else gW k l) = _
      by_cases h2 : x = k
      · rw [if_pos h2, if_pos h2]
      · rw [if_neg h2, if_neg h2]
        show _ = if x = k then some y else gW k l
        rw [if_neg h2]
    · rw [if_neg h]
      show (if x = k then some y else gW k (pW a b l)) = if a = k then some b else if x = k then some y else gW k l
      rw [gW_pW k a b l]
      by_cases h2 : x = k
      · rw [if_pos h2, if_pos h2]
        rw [if_neg fun z => h (h2.trans z.symm)]
      · rw [if_neg h2, if_neg h2]
theorem gW_none {k : Str} : ∀ {l : List (Str × α)}, gW k l = none ↔ k ∉ l.map (·.1)
  | [] => by simp [gW]
  | (a, b) :: r => by
    unfold gW
    by_cases h : a = k
    · rw [if_pos h]; simp [h]
    · rw [if_neg h, gW_none]
      simp [Ne.symm h]
theorem gW_mem {k : Str} {v : α} : ∀ {l : List (Str × α)}, gW k l = some v → (k, v) ∈ l
  | [], h => by cases h
  | (a, b) :: r, h => by
    unfold gW at h
    by_cases z : a = k
    · rw [if_pos z] at h; cases h; rw [z]; exact List.mem_cons_self
    · rw [if_neg z] at h; exact List.mem_cons_of_mem _ (gW_mem h)
theorem gW_of_mem {k : Str} {v : α} : ∀ {l : List (Str × α)}, (l.map (·.1)).Nodup → (k, v) ∈ l → gW k l = some v
  | [], _, h => by cases h
  | (a, b) :: r, nd, h => by
    rw [List.map_cons, List.nodup_cons] at nd
    unfold gW
    rcases List.mem_cons.mp h with h | h
    · cases h; rw [if_pos rfl]
    · rw [if_neg fun (z : a = k) => nd.1 (List.mem_map.mpr ⟨(k, v), h, z.symm⟩)]
      exact gW_of_mem nd.2 h
theorem gW_map {β : Type} (f : Str → α → β) (k : Str) : ∀ l : List (Str × α), gW k (l.map fun p => (p.1, f p.1 p.2)) = (gW k l).map (f k)
  | [] => rfl
  | (a, b) :: r => by
    show (if a = k then some (f a b) else gW k (r.map fun p => (p.1, f p.1 p.2))) = (if a = k then some b else gW k r).map (f k)
    by_cases h : a = k
    · rw [if_pos h, if_pos h, h]; rfl
    · rw [if_neg h, if_neg h, gW_map f k r]
theorem pW_keys (k : Str) (v : α) : ∀ l : List (Str × α), (pW k v l).map (·.1) = if k ∈ l.map (·.1) then l.map (·.1) else l.map (·.1) ++ [k]
  | [] => rfl
  | (a, b) :: r => by
    unfold pW
    by_cases h : a = k
    · rw [if_pos h]
      have : k ∈ ((a, b) :: r).map (·.1) := by rw [h]; exact List.mem_cons_self
      rw [if_pos this]; rfl
    · rw [if_neg h, List.map_cons, pW_keys k v r]
      by_cases h2 : k ∈ r.map (·.1)
      · rw [if_pos h2, if_pos (show k ∈ ((a, b) :: r).map (·.1) from List.mem_cons_of_mem _ h2)]; rfl
      · rw [if_neg h2, if_neg (show k ∉ ((a, b) :: r).map (·.1) from fun z => (List.mem_cons.mp z).elim (fun z => h z.symm) h2)]; rfl
theorem pW_nodup {k : Str} {v : α} {l : List (Str × α)} (h : (l.map (·.1)).Nodup) : ((pW k v l).map (·.1)).Nodup := by
  rw [pW_keys]
  split
  · exact h
  · rename_i z
    rw [List.nodup_append]
    refine ⟨h, by simp, fun a ha b hb => ?_⟩
    rw [List.mem_singleton] at hb
    subst hb
    exact fun e => z (e ▸ ha)
theorem pW_len (k : Str) (v : α) (l : List (Str × α)) : (pW k v l).length = if k ∈ l.map (·.1) then l.length else l.length + 1 := by
  have h := congrArg List.length (pW_keys k v l)
  rw [List.length_map] at h
  rw [h]
  split
  · rw [List.length_map]
  · rw [List.length_append, List.length_map]; rfl
theorem putKD_new {k v : D} : ∀ {acc : List (D × D)}, k ∉ acc.map (·.1) → putKD k v acc = acc ++ [(k, v)]
  | [], _ => rfl
  | (a, b) :: r, h => by
    unfold putKD
    rw [if_neg (fun (z : a = k) => h (z ▸ List.mem_cons_self)), putKD_new fun z => h (List.mem_cons_of_mem _ z)]
    rfl
theorem mkDic_nodup {l : List (D × D)} (h : (l.map (·.1)).Nodup) : mkDic l = l := by
  have gen : ∀ (l acc : List (D × D)), ((acc ++ l).map (·.1)).Nodup → l.foldl (fun l p => putKD p.1 p.2 l) acc = acc ++ l := by
    intro l
    induction l with
    | nil => intro acc _; simp
    | cons p l ih =>
      intro acc h
      rw [List.foldl_cons, putKD_new, ih]
      · simp
      · simpa using h
      · intro z
        rw [List.map_append, List.map_cons] at h
        exact (List.nodup_append.mp h).2.2 _ z _ List.mem_cons_self rfl
  exact gen l [] (by simpa using h)
theorem dW_keys (l : List (Str × α)) : (l.map (dW e)).map (·.1) = (l.map (·.1)).map D.str := by
  rw [List.map_map, List.map_map]; rfl
theorem str_nodup {l : List Str} (h : l.Nodup) : (l.map D.str).Nodup := List.Pairwise.map D.str (fun a b hab z => hab (D.str.inj z)) h
theorem mkDic_dW {l : List (Str × α)} (h : (l.map (·.1)).Nodup) : mkDic (l.map (dW e)) = l.map (dW e) := mkDic_nodup (by rw [dW_keys]; exact str_nodup h)
end
/-! ### what a picker wants, bars -/
def hasS (l : List Str) (v : Str) : Bool := l.any fun u => u == v
theorem hasS_iff {l : List Str} {v : Str} : hasS l v = true ↔ v ∈ l := by
  unfold hasS
  rw [List.any_eq_true]
  constructor
  · rintro ⟨u, hu, e⟩; rw [← eq_of_beq e]; exact hu
  · intro h; exact ⟨v, h, by simp⟩
def barL (cs : List Cnd) (k : Str) : List Str := cs.flatMap fun c => if (c.1 == k && c.2.1 == ("out" : Str)) = true then c.2.2 else []
abbrev WT := List (Str × List Str)
def wstep (F : WT) (c : Cnd) : WT := if (c.2.1 == ("in" : Str)) = true then pW c.1 (c.2.2.filter fun v => hasS ((gW c.1 F).getD c.2.2) v) F else F
def w1 (cs : List Cnd) : WT := cs.foldl wstep []
def w2 (cs : List Cnd) : WT := (w1 cs).map fun p => (p.1, p.2.filter fun v => !hasS (barL cs p.1) v)
theorem mem_bar {cs : List Cnd} {k v : Str} : v ∈ barL cs k ↔ ∃ c ∈ cs, c.1 = k ∧ c.2.1 = "out" ∧ v ∈ c.2.2 := by
  unfold barL
  rw [List.mem_flatMap]
  constructor
  · rintro ⟨c, hc, h⟩
    split at h
    · rename_i e
      rw [Bool.and_eq_true] at e
      exact ⟨c, hc, eq_of_beq e.1, eq_of_beq e.2, h⟩
    · cases h
  · rintro ⟨c, hc, h1, h2, h3⟩
    refine ⟨c, hc, ?_⟩
    rw [if_pos (by rw [h1, h2]; simp)]
    exact h3
structure WInv (F : WT) (done : List Cnd) : Prop where
  nd : (F.map (·.1)).Nodup
  no : ∀ k, gW k F = none ↔ ∀ c ∈ done, c.1 = k → c.2.1 ≠ "in"
  so : ∀ k vs, gW k F = some vs → ∀ v, v ∈ vs ↔ ∀ c ∈ done, c.1 = k → c.2.1 = "in" → v ∈ c.2.2
  len : F.length ≤ done.length
theorem WInv.step {F : WT} {done : List Cnd} (h : WInv F done) (c : Cnd) : WInv (wstep F c) (done ++ [c]) := by
  have app : ∀ {p : Cnd → Prop}, (∀ x ∈ done ++ [c], p x) ↔ (∀ x ∈ done, p x) ∧ p c := fun {p} => by
    constructor
    · intro h; exact ⟨fun x hx => h x (List.mem_append_left _ hx), h c (by simp)⟩
    · rintro ⟨h1, h2⟩ x hx
      rcases List.mem_append.mp hx with hx | hx
      · exact h1 x hx
      · rw [List.mem_singleton] at hx; rw [hx]; exact h2
  by_cases hi : c.2.1 = "in"
  · have e : wstep F c = pW c.1 (c.2.2.filter fun v => hasS ((gW c.1 F).getD c.2.2) v) F := by
      unfold wstep; rw [if_pos (by rw [hi]; simp)]
    rw [e]
    refine ⟨pW_nodup h.nd, fun k => ?_, fun k vs hk v => ?_, ?_⟩
    · rw [gW_pW, app]
      by_cases z : c.1 = k
      · rw [if_pos z]
        exact ⟨fun q => (by cases q), fun q => absurd hi (q.2 z)⟩
      · rw [if_neg z, h.no k]
        exact ⟨fun q => ⟨q, fun y => absurd y z⟩, fun q => q.1⟩
    · rw [gW_pW] at hk
      rw [app]
      by_cases z : c.1 = k
      · rw [if_pos z] at hk
        cases hk
        rw [List.mem_filter, hasS_iff]
        cases hg : gW c.1 F with
        | none =>
          have no := (h.no c.1).mp hg
          constructor
          · rintro ⟨h1, _⟩
            exact ⟨fun x hx e1 e2 => absurd e2 (no x hx (e1.trans z.symm)), fun _ _ => h1⟩
          · rintro ⟨_, h2⟩
            exact ⟨h2 z hi, h2 z hi⟩
        | some us =>
          have so := h.so c.1 us hg v
          rw [z] at so
          constructor
          · rintro ⟨h1, h2⟩
            exact ⟨so.mp h2, fun _ _ => h1⟩
          · rintro ⟨h1, h2⟩
            exact ⟨h2 z hi, so.mpr h1⟩
      · rw [if_neg z] at hk
        rw [h.so k vs hk v]
        exact ⟨fun q => ⟨q, fun y => absurd y z⟩, fun q => q.1⟩
    · rw [pW_len, List.length_append]
      have := h.len
      split <;> simp <;> omega
  · have e : wstep F c = F := by
      unfold wstep; rw [if_neg (by simpa using hi)]
    rw [e]
    refine ⟨h.nd, fun k => ?_, fun k vs hk v => ?_, ?_⟩
    · rw [h.no k, app]
      exact ⟨fun q => ⟨q, fun _ => hi⟩, fun q => q.1⟩
    · rw [h.so k vs hk v, app]
      exact ⟨fun q => ⟨q, fun _ y => absurd y hi⟩, fun q => q.1⟩
    · rw [List.length_append]; have := h.len; omega
theorem WInv.run : ∀ (cs : List Cnd) (F : WT) (done : List Cnd), WInv F done → WInv (cs.foldl wstep F) (done ++ cs)
  | [], F, done, h => by simpa using h
  | c :: cs, F, done, h => by
    have := WInv.run cs (wstep F c) (done ++ [c]) (h.step c)
    simpa using this
theorem WInv.nil : WInv [] [] := ⟨by simp, fun k => by simp [gW], fun k vs h => by simp [gW] at h, Nat.le_refl _⟩
theorem w1_inv (cs : List Cnd) : WInv (w1 cs) cs := by
  have := WInv.run cs [] [] .nil
  show WInv (cs.foldl wstep []) cs
  simpa using this
theorem w2_keys (cs : List Cnd) : (w2 cs).map (·.1) = (w1 cs).map (·.1) := by unfold w2; rw [List.map_map]; rfl
theorem w2_nd (cs : List Cnd) : ((w2 cs).map (·.1)).Nodup := by rw [w2_keys]; exact (w1_inv cs).nd
theorem w2_len (cs : List Cnd) : (w2 cs).length ≤ cs.length := by unfold w2; rw [List.length_map]; exact (w1_inv cs).len
theorem w2_get (cs : List Cnd) (k : Str) : gW k (w2 cs) = (gW k (w1 cs)).map fun vs => vs.filter fun v => !hasS (barL cs k) v := gW_map (α := List Str) (β := List Str) (fun (k : Str) (vs : List Str) => vs.filter fun v => !hasS (barL cs k) v) k (w1 cs)
theorem w2_no {cs : List Cnd} {k : Str} : gW k (w2 cs) = none ↔ ∀ c ∈ cs, c.1 = k → c.2.1 ≠ "in" := by
  rw [w2_get, Option.map_eq_none_iff]; exact (w1_inv cs).no k
theorem w2_so {cs : List Cnd} {k : Str} {vs : List Str} (h : gW k (w2 cs) = some vs) (v : Str) : v ∈ vs ↔ (∀ c ∈ cs, c.1 = k → c.2.1 = "in" → v ∈ c.2.2) ∧ v ∉ barL cs k := by
  rw [w2_get, Option.map_eq_some_iff] at h
  obtain ⟨us, hu, rfl⟩ := h
  rw [List.mem_filter, (w1_inv cs).so k us hu v]
  refine and_congr_right fun _ => ?_
  rw [Bool.not_eq_true', ← Bool.not_eq_true, hasS_iff]
/-! ### tags that a picker picks -/
/-- a condition, of tags -/
def cA (A : Str → Option Str) (c : Cnd) : Bool := (c.2.2.any fun v => v == (A c.1).getD "") == (c.2.1 == ("in" : Str))
structure Good (cs : List Cnd) (A : Str → Option Str) : Prop where
  inn : ∀ k vs, gW k (w2 cs) = some vs → ∃ v ∈ vs, A k = some v
  out : ∀ k, gW k (w2 cs) = none → ∀ v, A k = some v → v ∉ barL cs k
/-- good conditions, as far as it matters here -/
structure CsOk (cs : List Cnd) : Prop where
  h : ∀ c ∈ cs, c.2.1 = "in" ∨ c.2.1 = "out"
  e : ∀ c ∈ cs, ("" : Str) ∉ c.2.2
theorem in_beq_out : (("out" : Str) == "in") = false := by decide +kernel
theorem out_beq_in : (("in" : Str) == "out") = false := by decide +kernel
theorem any_false {l : List Str} {v : Str} (h : v ∉ l) : (l.any fun u => u == v) = false := by
  rw [← Bool.not_eq_true]; exact fun z => h (hasS_iff.mp z)
theorem any_true {l : List Str} {v : Str} (h : v ∈ l) : (l.any fun u => u == v) = true := hasS_iff.mpr h
theorem Good.cA {cs : List Cnd} {A : Str → Option Str} (ok : CsOk cs) (g : Good cs A) : ∀ c ∈ cs, cA A c = true := by
  intro c hc
  unfold L.cA
  cases hg : gW c.1 (w2 cs) with
  | some vs =>
    obtain ⟨v, hv, ea⟩ := g.inn c.1 vs hg
    obtain ⟨h1, h2⟩ := (w2_so hg v).mp hv
    rw [ea]
    rcases ok.h c hc with z | z
    · rw [show (c.2.2.any fun u => u == (some v).getD "") = true from any_true (h1 c hc rfl z), z]; simp
    · rw [show (c.2.2.any fun u => u == (some v).getD "") = false from any_false fun y => h2 (mem_bar.mpr ⟨c, hc, rfl, z, y⟩), z, in_beq_out]; rfl
  | none =>
    have z : c.2.1 = "out" := (ok.h c hc).resolve_left (w2_no.mp hg c hc rfl)
    rw [z, in_beq_out]
    cases ea : A c.1 with
    | none =>
      rw [show (c.2.2.any fun u => u == (none : Option Str).getD "") = false from any_false (ok.e c hc)]; rfl
    | some v =>
      rw [show (c.2.2.any fun u => u == (some v).getD "") = false from any_false fun y => g.out c.1 hg v ea (mem_bar.mpr ⟨c, hc, rfl, z, y⟩)]; rfl
theorem Good.of {cs : List Cnd} {A : Str → Option Str} (ok : CsOk cs) (h : ∀ c ∈ cs, L.cA A c = true) : Good cs A := by
  have inn : ∀ c ∈ cs, c.2.1 = "in" → ∃ v ∈ c.2.2, A c.1 = some v := by
    intro c hc z
    have q := h c hc
    unfold L.cA at q
    rw [z] at q
    have q : (c.2.2.any fun u => u == (A c.1).getD "") = true := by
      cases hb : (c.2.2.any fun u => u == (A c.1).getD "")
      · rw [hb] at q; simp at q
      · rfl
    have q := hasS_iff.mp q
    cases ea : A c.1 with
    | none => rw [ea] at q; exact absurd q (ok.e c hc)
    | some v => rw [ea] at q; exact ⟨v, q, rfl⟩
  have out : ∀ c ∈ cs, c.2.1 = "out" → ∀ v, A c.1 = some v → v ∉ c.2.2 := by
    intro c hc z v ea y
    have q := h c hc
    unfold L.cA at q
    rw [z, in_beq_out, ea, show (c.2.2.any fun u => u == (some v).getD "") = true from any_true y] at q
    cases q
  have bar : ∀ k v, A k = some v → v ∉ barL cs k := by
    intro k v ea y
    obtain ⟨c, hc, rfl, z, y⟩ := mem_bar.mp y
    exact out c hc z v ea y
  refine ⟨fun k vs hg => ?_, fun k _ v ea => bar k v ea⟩
  have : ∃ c ∈ cs, c.1 = k ∧ c.2.1 = "in" := by
    refine Classical.byContradiction fun z => ?_
    have : gW k (w2 cs) = none := w2_no.mpr fun c hc e1 e2 => z ⟨c, hc, e1, e2⟩
    rw [hg] at this; cases this
  obtain ⟨c, hc, rfl, z⟩ := this
  obtain ⟨v, hv, ea⟩ := inn c hc z
  refine ⟨v, (w2_so hg v).mpr ⟨fun c' hc' e1 e2 => ?_, bar _ v ea⟩, ea⟩
  obtain ⟨v', hv', ea'⟩ := inn c' hc' e2
  rw [e1, ea] at ea'
  cases ea'; exact hv'
end L
namespace L
open PySem TH
/-! ### what parts two pickers -/
def t0 (M : WT) : List (Str × Str) := M.map fun p => (p.1, p.2.headD "")
def brk (cs : List Cnd) (M : WT) (T : List (Str × Str)) (c : Cnd) : Option (List (Str × Str)) :=
  match gW c.1 M with
  | some vs => match vs.filter (fun v => hasS c.2.2 v == (c.2.1 == ("out" : Str))) with
    | [] => none
    | v :: _ => some (pW c.1 v T)
  | none => if (c.2.1 == ("in" : Str)) = true then some T else
    match c.2.2.filter (fun v => !hasS (barL cs c.1) v) with
    | [] => none
    | v :: _ => if T.length = 4 then none else some (pW c.1 v T)
def wrd (w ow : Str) : Str := if (w == ("" : Str)) = true then (if (ow == ("a" : Str)) = true then "b" else "a") else w
def prt (w : Str) (cs : List Cnd) (ow : Str) (ocs : List Cnd) : Option (Str × List (Str × Str)) :=
  if ((w2 cs).any fun p => p.2.isEmpty) = true then none else
  if (("" : Str) == ow || (wrd w ow == ow || false)) = true then (ocs.findSome? (brk cs (w2 cs) (t0 (w2 cs)))).map fun T => (wrd w ow, T)
  else some (wrd w ow, t0 (w2 cs))
theorem gW_t0 (M : WT) (k : Str) : gW k (t0 M) = (gW k M).map fun vs => vs.headD "" := gW_map (α := List Str) (β := Str) (fun (_ : Str) (vs : List Str) => vs.headD "") k M
theorem t0_keys (M : WT) : (t0 M).map (·.1) = M.map (·.1) := by unfold t0; rw [List.map_map]; rfl
theorem any_empty {M : WT} (h : ¬ (M.any fun p => p.2.isEmpty) = true) {k : Str} {vs : List Str} (hg : gW k M = some vs) : vs ≠ [] := fun z => h (List.any_eq_true.mpr ⟨(k, vs), gW_mem hg, by rw [z]; rfl⟩)
theorem Good.t0 {cs : List Cnd} (h : ¬ ((w2 cs).any fun p => p.2.isEmpty) = true) : Good cs (fun k => gW k (L.t0 (w2 cs))) := by
  refine ⟨fun k vs hg => ?_, fun k hg v ea => ?_⟩
  · have hne := any_empty h hg
    cases vs with
    | nil => exact absurd rfl hne
    | cons v vs => exact ⟨v, List.mem_cons_self, by rw [gW_t0, hg]; rfl⟩
  · rw [gW_t0, hg] at ea; cases ea
/-- from where the tags are -/
def From (cs : List Cnd) (T : List (Str × Str)) : Prop := ∀ p ∈ T, ∃ c ∈ cs, p.1 = c.1 ∧ p.2 ∈ c.2.2
theorem mem_pW {α : Type} {k : Str} {v : α} {p : Str × α} : ∀ {l : List (Str × α)}, p ∈ pW k v l → p = (k, v) ∨ p ∈ l
  | [], h => by
    rw [show pW k v ([] : List (Str × α)) = [(k, v)] from rfl, List.mem_singleton] at h
    exact .inl h
  | (a, b) :: r, h => by
    unfold pW at h
    split at h
    · rename_i e
      rcases List.mem_cons.mp h with h | h
      · exact .inl (by rw [h, e])
      · exact .inr (List.mem_cons_of_mem _ h)
    · rcases List.mem_cons.mp h with h | h
      · exact .inr (by rw [h]; exact List.mem_cons_self)
      · exact (mem_pW h).imp_right (List.mem_cons_of_mem _)
theorem w2_from {cs : List Cnd} {k : Str} {vs : List Str} (h : gW k (w2 cs) = some vs) {v : Str} (hv : v ∈ vs) : ∃ c ∈ cs, k = c.1 ∧ v ∈ c.2.2 := by
  have : ∃ c ∈ cs, c.1 = k ∧ c.2.1 = "in" := by
    refine Classical.byContradiction fun z => ?_
    have : gW k (w2 cs) = none := w2_no.mpr fun c hc e1 e2 => z ⟨c, hc, e1, e2⟩
    rw [h] at this; cases this
  obtain ⟨c, hc, rfl, z⟩ := this
  exact ⟨c, hc, rfl, ((w2_so h v).mp hv).1 c hc rfl z⟩
theorem t0_from {cs : List Cnd} (h : ¬ ((w2 cs).any fun p => p.2.isEmpty) = true) : From cs (L.t0 (w2 cs)) := by
  rintro ⟨k, v⟩ hp
  have hg : gW k (L.t0 (w2 cs)) = some v := gW_of_mem (by rw [t0_keys]; exact w2_nd cs) hp
  rw [gW_t0, Option.map_eq_some_iff] at hg
  obtain ⟨vs, hg, rfl⟩ := hg
  have hne := any_empty h hg
  cases vs with
  | nil => exact absurd rfl hne
  | cons v vs => exact w2_from hg (List.mem_cons_self)
/-- a found break -/
theorem brk_some {cs : List Cnd} {c : Cnd} {T : List (Str × Str)} (hl : (w2 cs).length ≤ 4) (ok : CsOk [c]) (h : ¬ ((w2 cs).any fun p => p.2.isEmpty) = true) (e : brk cs (w2 cs) (t0 (w2 cs)) c = some T) :
    Good cs (fun k => gW k T) ∧ cA (fun k => gW k T) c = false ∧ (T.map (·.1)).Nodup ∧ T.length ≤ 4 ∧ From (cs ++ [c]) T := by
  have g0 := Good.t0 h
  have nd0 : ((t0 (w2 cs)).map (·.1)).Nodup := by rw [t0_keys]; exact w2_nd cs
  have l0 : (t0 (w2 cs)).length = (w2 cs).length := by unfold t0; rw [List.length_map]
  have f0 := t0_from h
  have hh := ok.h c List.mem_cons_self
  have he := ok.e c List.mem_cons_self
  unfold brk at e
  split at e
  · rename_i vs hg
    split at e
    · cases e
    · rename_i v r hf
      cases e
      have hv : v ∈ vs.filter (fun v => hasS c.2.2 v == (c.2.1 == ("out" : Str))) := by rw [hf]; exact List.mem_cons_self
      rw [List.mem_filter] at hv
      have hin : c.1 ∈ (t0 (w2 cs)).map (·.1) := by
        rw [t0_keys]
        exact List.mem_map.mpr ⟨_, gW_mem hg, rfl⟩
      refine ⟨⟨fun k us hu => ?_, fun k hu u ea => ?_⟩, ?_, pW_nodup nd0, ?_, ?_⟩
      · by_cases z : c.1 = k
        · subst z
          rw [hg] at hu; cases hu
          exact ⟨v, hv.1, by show gW c.1 (pW c.1 v _) = _; rw [gW_pW, if_pos rfl]⟩
        · obtain ⟨u, h1, h2⟩ := g0.inn k us hu
          exact ⟨u, h1, by show gW k (pW c.1 v _) = _; rw [gW_pW, if_neg z]; exact h2⟩
      · have ea : gW k (pW c.1 v (t0 (w2 cs))) = some u := ea
        rw [gW_pW] at ea
        split at ea
        · rename_i z; rw [z, hu] at hg; cases hg
        · exact g0.out k hu u ea
      · unfold cA
        have e1 : gW c.1 (pW c.1 v (t0 (w2 cs))) = some v := by rw [gW_pW, if_pos rfl]
        show ((c.2.2.any fun u => u == (gW c.1 (pW c.1 v (t0 (w2 cs)))).getD "") == (c.2.1 == ("in" : Str))) = false
        rw [e1]
        have h2 := hv.2
        unfold hasS at h2
        show ((c.2.2.any fun u => u == v) == _) = false
        rcases hh with z | z
        · rw [z, out_beq_in] at h2
          rw [z, eq_of_beq h2]; rfl
        · rw [z] at h2
          rw [z, in_beq_out, show (c.2.2.any fun u => u == v) = true from (by simpa using h2)]; rfl
      · rw [pW_len, if_pos hin, l0]; exact hl
      · intro p hp
        rcases mem_pW hp with rfl | hp
        · obtain ⟨c', h1, h2, h3⟩ := w2_from hg hv.1
          exact ⟨c', List.mem_append_left _ h1, h2, h3⟩
        · obtain ⟨c', h1, h2⟩ := f0 p hp
          exact ⟨c', List.mem_append_left _ h1, h2⟩
  · rename_i hg
    have hn : gW c.1 (t0 (w2 cs)) = none := by rw [gW_t0, hg]; rfl
    split at e
    · rename_i z
      cases e
      refine ⟨g0, ?_, nd0, by rw [l0]; exact hl, fun p hp => (let ⟨c', h1, h2⟩ := f0 p hp; ⟨c', List.mem_append_left _ h1, h2⟩)⟩
      unfold cA
      show ((c.2.2.any fun u => u == (gW c.1 (t0 (w2 cs))).getD "") == (c.2.1 == ("in" : Str))) = false
      rw [hn, z, show (c.2.2.any fun u => u == (none : Option Str).getD "") = false from any_false he]; rfl
    · rename_i z
      have ho : c.2.1 = "out" := hh.resolve_left fun y => z (by rw [y]; simp)
      split at e
      · cases e
      · rename_i v r hf
        split at e
        · cases e
        · rename_i h4
          cases e
          have hv : v ∈ c.2.2.filter (fun v => !hasS (barL cs c.1) v) := by rw [hf]; exact List.mem_cons_self
          rw [List.mem_filter, Bool.not_eq_true', ← Bool.not_eq_true, hasS_iff] at hv
          refine ⟨⟨fun k us hu => ?_, fun k hu u ea => ?_⟩, ?_, pW_nodup nd0, ?_, ?_⟩
          · by_cases y : c.1 = k
            · subst y; rw [hg] at hu; cases hu
            · obtain ⟨u, h1, h2⟩ := g0.inn k us hu
              exact ⟨u, h1, by show gW k (pW c.1 v _) = _; rw [gW_pW, if_neg y]; exact h2⟩
          · have ea : gW k (pW c.1 v (t0 (w2 cs))) = some u := ea
            rw [gW_pW] at ea
            split at ea
            · rename_i y; cases ea; rw [← y]; exact hv.2
            · exact g0.out k hu u ea
          · unfold cA
            show ((c.2.2.any fun u => u == (gW c.1 (pW c.1 v (t0 (w2 cs)))).getD "") == (c.2.1 == ("in" : Str))) = false
            rw [gW_pW, if_pos rfl, ho, in_beq_out, show (c.2.2.any fun u => u == (some v).getD "") = true from any_true hv.1]; rfl
          · have hni : c.1 ∉ (t0 (w2 cs)).map (·.1) := gW_none.mp hn
            rw [pW_len, if_neg hni]
            omega
          · intro p hp
            rcases mem_pW hp with rfl | hp
            · exact ⟨c, by simp, rfl, hv.1⟩
            · obtain ⟨c', h1, h2⟩ := f0 p hp
              exact ⟨c', List.mem_append_left _ h1, h2⟩
theorem brk_none {cs : List Cnd} {c : Cnd} (ok : CsOk [c]) (e : brk cs (w2 cs) (t0 (w2 cs)) c = none) (sm : gW c.1 (w2 cs) = none → c.2.1 = "out" → (w2 cs).length ≠ 4) {A : Str → Option Str} (g : Good cs A) : cA A c = true := by
  have hh := ok.h c List.mem_cons_self
  have he := ok.e c List.mem_cons_self
  have l0 : (t0 (w2 cs)).length = (w2 cs).length := by unfold t0; rw [List.length_map]
  unfold brk at e
  split at e
  · rename_i vs hg
    split at e
    · rename_i hf
      obtain ⟨v, hv, ea⟩ := g.inn c.1 vs hg
      have no : (hasS c.2.2 v == (c.2.1 == ("out" : Str))) = false := by
        rw [← Bool.not_eq_true]
        intro y
        have : v ∈ vs.filter (fun v => hasS c.2.2 v == (c.2.1 == ("out" : Str))) := List.mem_filter.mpr ⟨hv, y⟩
        rw [hf] at this; cases this
      unfold cA
      rw [ea]
      unfold hasS at no
      show ((c.2.2.any fun u => u == v) == (c.2.1 == ("in" : Str))) = true
      rcases hh with z | z
      · rw [z, out_beq_in] at no
        rw [z]
        cases hb : (c.2.2.any fun u => u == v)
        · rw [hb] at no; cases no
        · simp
      · rw [z] at no
        rw [z, in_beq_out]
        cases hb : (c.2.2.any fun u => u == v)
        · rfl
        · rw [hb] at no; simp at no
    · cases e
  · rename_i hg
    split at e
    · cases e
    · rename_i z
      have ho : c.2.1 = "out" := hh.resolve_left fun y => z (by rw [y]; simp)
      unfold cA
      rw [ho, in_beq_out]
      split at e
      · rename_i hf
        cases ea : A c.1 with
        | none => rw [show (c.2.2.any fun u => u == (none : Option Str).getD "") = false from any_false he]; rfl
        | some v =>
          have nb := g.out c.1 hg v ea
          have : v ∉ c.2.2 := fun y => by
            have : v ∈ c.2.2.filter (fun v => !hasS (barL cs c.1) v) := List.mem_filter.mpr ⟨y, by rw [Bool.not_eq_true', ← Bool.not_eq_true, hasS_iff]; exact nb⟩
            rw [hf] at this; cases this
          rw [show (c.2.2.any fun u => u == (some v).getD "") = false from any_false this]; rfl
      · split at e
        · rename_i h4
          rw [l0] at h4
          exact absurd h4 (sm hg ho)
        · cases e
/-- what parted tells parts -/
structure Part (w : Str) (cs : List Cnd) (ow : Str) (ocs : List Cnd) (nw : Str) (T : List (Str × Str)) : Prop where
  w : nw = wrd w ow
  nd : (T.map (·.1)).Nodup
  len : T.length ≤ 4
  fr : From (cs ++ ocs) T
  g : Good cs (fun k => gW k T)
  no : ¬ (ow = "" ∨ ow = nw) ∨ ∃ c ∈ ocs, cA (fun k => gW k T) c = false
theorem CsOk.sub {cs cs' : List Cnd} (h : CsOk cs) (s : ∀ c ∈ cs', c ∈ cs) : CsOk cs' := ⟨fun c hc => h.h c (s c hc), fun c hc => h.e c (s c hc)⟩
theorem fits {a b : Str} : (("" : Str) == b || (a == b || false)) = true ↔ b = "" ∨ b = a := by
  rw [Bool.or_false, Bool.or_eq_true, beq_iff_eq, beq_iff_eq]
  exact ⟨fun h => h.imp Eq.symm Eq.symm, fun h => h.imp Eq.symm Eq.symm⟩
theorem prt_some {w : Str} {cs : List Cnd} {ow : Str} {ocs : List Cnd} {nw : Str} {T : List (Str × Str)} (hl : (w2 cs).length ≤ 4) (ok : CsOk ocs) (e : prt w cs ow ocs = some (nw, T)) : Part w cs ow ocs nw T := by
  unfold prt at e
  split at e
  · cases e
  · rename_i hn
    split at e
    · rename_i hw
      obtain ⟨T', h1, h2⟩ := Option.map_eq_some_iff.mp e
      cases h2
      obtain ⟨c, hc, h3⟩ := List.exists_of_findSome?_eq_some h1
      obtain ⟨a1, a2, a3, a4, a5⟩ := brk_some hl (ok.sub fun x hx => by rw [List.mem_singleton] at hx; rw [hx]; exact hc) hn h3
      refine ⟨rfl, a3, a4, fun p hp => ?_, a1, .inr ⟨c, hc, a2⟩⟩
      obtain ⟨c', b1, b2⟩ := a5 p hp
      rcases List.mem_append.mp b1 with b1 | b1
      · exact ⟨c', List.mem_append_left _ b1, b2⟩
      · rw [List.mem_singleton] at b1
        exact ⟨c', List.mem_append_right _ (b1 ▸ hc), b2⟩
    · rename_i hw
      cases e
      refine ⟨rfl, by rw [t0_keys]; exact w2_nd cs, by unfold t0; rw [List.length_map]; exact hl, fun p hp => ?_, Good.t0 hn, .inl fun z => hw (fits.mpr z)⟩
      obtain ⟨c', b1, b2⟩ := t0_from hn p hp
      exact ⟨c', List.mem_append_left _ b1, b2⟩
theorem prt_none {w : Str} {cs : List Cnd} {ow : Str} {ocs : List Cnd} (ok : CsOk ocs) (e : prt w cs ow ocs = none) (sm : ∀ c ∈ ocs, gW c.1 (w2 cs) = none → c.2.1 = "out" → (w2 cs).length ≠ 4) {A : Str → Option Str} (g : Good cs A) :
    (ow = "" ∨ ow = wrd w ow) ∧ ∀ c ∈ ocs, cA A c = true := by
  unfold prt at e
  split at e
  · rename_i hn
    obtain ⟨⟨k, vs⟩, hp, hv⟩ := List.any_eq_true.mp hn
    obtain ⟨v, h1, _⟩ := g.inn k vs (gW_of_mem (w2_nd cs) hp)
    have hv : vs.isEmpty = true := hv
    rw [List.isEmpty_iff.mp hv] at h1; cases h1
  · split at e
    · rename_i hw
      refine ⟨fits.mp hw, fun c hc => ?_⟩
      have := List.findSome?_eq_none_iff.mp (Option.map_eq_none_iff.mp e) c hc
      exact brk_none (ok.sub fun x hx => by rw [List.mem_singleton] at hx; rw [hx]; exact hc) this (sm c hc) g
    · cases e
/-! ### the name told -/
def srt (T : List (Str × Str)) : List (Str × Str) := (sortS (T.map (·.1))).map fun k => (k, (gW k T).getD "")
theorem srt_keys (T : List (Str × Str)) : (srt T).map (·.1) = sortS (T.map (·.1)) := by
  unfold srt
  rw [List.map_map]
  exact List.map_id'' (fun _ => rfl) _
theorem gW_fun {α : Type} (f : Str → α) (k : Str) : ∀ ks : List Str, gW k (ks.map fun k => (k, f k)) = if k ∈ ks then some (f k) else none
  | [] => by simp [gW]
  | a :: r => by
    show (if a = k then some (f a) else gW k (r.map fun k => (k, f k))) = _
    by_cases h : a = k
    · subst h; rw [if_pos rfl, if_pos List.mem_cons_self]
    · rw [if_neg h, gW_fun f k r]
      by_cases h2 : k ∈ r
      · rw [if_pos h2, if_pos (List.mem_cons_of_mem _ h2)]
      · rw [if_neg h2, if_neg fun z => (List.mem_cons.mp z).elim (fun z => h z.symm) h2]
theorem gW_srt (T : List (Str × Str)) (k : Str) : gW k (srt T) = gW k T := by
  unfold srt
  rw [gW_fun (fun k => (gW k T).getD "") k]
  have p : (sortS (T.map (·.1))).Perm (T.map (·.1)) := sortO_perm _
  cases h : gW k T with
  | none => rw [if_neg fun z => gW_none.mp h (p.mem_iff.mp z)]
  | some v =>
    rw [if_pos (p.mem_iff.mpr (List.mem_map.mpr ⟨_, gW_mem h, rfl⟩))]; rfl
theorem lastV_gW {key : Str} : ∀ {l : List (Str × Str)} {o : Option Str}, (l.map (·.1)).Nodup → lastV key o l = (gW key l).or o
  | [], o, _ => by simp [lastV, gW]
  | (a, b) :: l, o, nd => by
    rw [List.map_cons, List.nodup_cons] at nd
    show lastV key (if a = key then some b else o) l = _
    rw [lastV_gW nd.2]
    show _ = (if a = key then some b else gW key l).or o
    by_cases h : a = key
    · subst h
      rw [if_pos rfl, if_pos rfl, gW_none.mpr nd.1]; rfl
    · rw [if_neg h, if_neg h]
theorem srt_nd {T : List (Str × Str)} (h : (T.map (·.1)).Nodup) : ((srt T).map (·.1)).Nodup := by
  rw [srt_keys]
  exact (sortO_perm (T.map (·.1))).symm.nodup h
theorem srt_rise {T : List (Str × Str)} (h : (T.map (·.1)).Nodup) : Rises ((srt T).map (·.1)) := by
  rw [srt_keys]
  have p : (sortS (T.map (·.1))).Perm (T.map (·.1)) := sortO_perm _
  exact rises_of (sortO_pw strO _) (p.symm.nodup h)
theorem srt_len (T : List (Str × Str)) : (srt T).length = T.length := by
  have p : (sortS (T.map (·.1))).Perm (T.map (·.1)) := sortO_perm _
  unfold srt
  rw [List.length_map, p.length_eq, List.length_map]
theorem mem_srt {T : List (Str × Str)} (h : (T.map (·.1)).Nodup) {p : Str × Str} : p ∈ srt T ↔ p ∈ T := by
  obtain ⟨k, v⟩ := p
  constructor
  · intro hp
    have := gW_of_mem (srt_nd h) hp
    rw [gW_srt] at this
    exact gW_mem this
  · intro hp
    have := gW_of_mem h hp
    rw [← gW_srt] at this
    exact gW_mem this
theorem cnd_cA (l : List (Str × Str)) (nd : (l.map (·.1)).Nodup) (c : Cnd) : cndB l c = cA (fun k => gW k l) c := by
  unfold cndB cA
  rw [lastV_gW nd, Option.or_none]
theorem rises_nd {l : List Str} (h : Rises l) : l.Nodup := List.Pairwise.imp (fun {a b} hab z => by rw [z, strLt_irrefl] at hab; cases hab) h
theorem pick_iff {w nw : Str} {cs : List Cnd} {l : List (Str × Str)} (nd : (l.map (·.1)).Nodup) : pickB w nw cs l = true ↔ (w = "" ∨ w = nw) ∧ ∀ c ∈ cs, cA (fun k => gW k l) c = true := by
  unfold pickB
  rw [Bool.and_eq_true, fits, List.all_map, List.all_eq_true]
  refine and_congr_right fun _ => ?_
  constructor
  · intro h c hc
    rw [← cnd_cA l nd]; exact h c hc
  · intro h c hc
    show cndB l c = true
    rw [cnd_cA l nd]; exact h c hc
theorem srt_fun (T : List (Str × Str)) : (fun k => gW k (srt T)) = fun k => gW k T := funext fun k => gW_srt T k
theorem wrd_fit (w ow : Str) : w = "" ∨ w = wrd w ow := by
  unfold wrd
  by_cases h : w = ""
  · exact .inl h
  · exact .inr (by rw [if_neg (by simpa using h)])
theorem Part.picks {w : Str} {cs : List Cnd} {ow : Str} {ocs : List Cnd} {nw : Str} {T : List (Str × Str)} (h : Part w cs ow ocs nw T) (ok : CsOk cs) : pickB w nw cs (srt T) = true := by
  rw [pick_iff (srt_nd h.nd), srt_fun]
  exact ⟨by rw [h.w]; exact wrd_fit w ow, h.g.cA ok⟩
theorem Part.picksnt {w : Str} {cs : List Cnd} {ow : Str} {ocs : List Cnd} {nw : Str} {T : List (Str × Str)} (h : Part w cs ow ocs nw T) : pickB ow nw ocs (srt T) = false := by
  rw [← Bool.not_eq_true, pick_iff (srt_nd h.nd), srt_fun]
  rintro ⟨h1, h2⟩
  rcases h.no with z | ⟨c, hc, z⟩
  · exact z h1
  · rw [h2 c hc] at z; cases z
end L
namespace L
open PySem TH
theorem compA_inv {Y : Type} {W : Sto → Prop} {step : D → List D → Sto → (List D → Sto → Prop) → Prop} {fin : List D → Sto → Prop} {S : Sto} (g : Y → D) (I : List Y → List D → Prop) (hW : W S)
    (hs : ∀ y r acc (k : List D → Sto → Prop), I (y :: r) acc → (∀ acc', I r acc' → k acc' S) → step (g y) acc S k) (hf : ∀ acc, I [] acc → fin acc S) : ∀ ys acc, I ys acc → compA W step fin (ys.map g) acc S
  | [], acc, h => ⟨hW, hf acc h⟩
  | y :: ys, acc, h => ⟨hW, hs y ys acc _ h fun acc' h' => compA_inv g I hW hs hf ys acc' h'⟩
theorem barL_cons (c : Cnd) (cs : List Cnd) (k : Str) : barL (c :: cs) k = (if (c.1 == k && c.2.1 == ("out" : Str)) = true then c.2.2 else []) ++ barL cs k := rfl
theorem barred_ok (k : Nat) (w key : Str) (cs : List Cnd) (S : Sto) (Q : D → Sto → Prop) (E : Nat → List D → Sto → Prop) (hn : cs.length ≤ 4) (h4 : ∀ c ∈ cs, c.2.2.length ≤ 4) (q : Q (.ilst ((barL cs key).map D.str)) S) : Phi Pr (k + 1) 14 [.tup [.str w, .tup (cs.map cd)], .str key] S Q E := by
  refine Phi_fn (ε := [some (.tup [.str w, .tup (cs.map cd)]), some (.str key), none, none, none, none]) rfl rfl rfl ?_
  dsimp only [b_barred]
  try dsimp only [wpSs, wpS, wpE, wpT, wpA, wpI, wpTs, getV, setV, setVs, wipeV, asgT, iterR, isiR, tyOf, subTy, tyB, optI, bfR, seqOf, lstOf, cmpR, newL, binR, idxR]
  try simp only [eqR_ii, eqR_ss, eqR_bb, ix20, ix21, ix30, ix31, ix32, lenk2, lenk3, pcs0, pcs1, pcs2, pcs3, pcs4, Bool.not_true, Bool.not_false, if_true, if_false, Bool.false_eq_true, reduceCtorEq, ite_true, ite_false]
  refine compA_inv cd (fun r acc => ∃ pre, (∀ c ∈ r, c.2.2.length ≤ 4) ∧ acc = pre.map D.str ∧ pre ++ barL r key = barL cs key ∧ pre.length + 4 * r.length ≤ 16) trivial ?_ ?_ cs [] ⟨[], h4, rfl, rfl, by simp; omega⟩
  · rintro c r acc kk ⟨pre, h4, rfl, e, hl⟩ hk
    rw [barL_cons] at e
    have hc4 := h4 c List.mem_cons_self
    have hr4 : ∀ c ∈ r, c.2.2.length ≤ 4 := fun c hc => h4 c (List.mem_cons_of_mem _ hc)
    have hl : pre.length + 4 * (r.length + 1) ≤ 16 := hl
    refine ⟨rfl, ?_⟩
    try dsimp only [wpSs, wpS, wpE, wpT, wpA, wpI, wpTs, getV, setV, setVs, wipeV, asgT, iterR, isiR, tyOf, subTy, tyB, optI, bfR, seqOf, lstOf, cmpR, newL, binR, idxR]
    try simp only [eqR_ii, eqR_ss, eqR_bb, ix20, ix21, ix30, ix31, ix32, lenk2, lenk3, pcs0, pcs1, pcs2, pcs3, pcs4, Bool.not_true, Bool.not_false, if_true, if_false, Bool.false_eq_true, reduceCtorEq, ite_true, ite_false]
    cases h1 : (c.1 == key)
    · rw [h1] at e
      try simp only [eqR_ii, eqR_ss, eqR_bb, ix20, ix21, ix30, ix31, ix32, lenk2, lenk3, pcs0, pcs1, pcs2, pcs3, pcs4, Bool.not_true, Bool.not_false, if_true, if_false, Bool.false_eq_true, reduceCtorEq, ite_true, ite_false]
      exact hk _ ⟨pre, hr4, rfl, by simpa using e, by omega⟩
    · rw [h1] at e
      try simp only [eqR_ii, eqR_ss, eqR_bb, ix20, ix21, ix30, ix31, ix32, lenk2, lenk3, pcs0, pcs1, pcs2, pcs3, pcs4, Bool.not_true, Bool.not_false, if_true, if_false, Bool.false_eq_true, reduceCtorEq, ite_true, ite_false]
      cases h2 : (c.2.1 == ("out" : Str))
      · rw [h2] at e
        try simp only [eqR_ii, eqR_ss, eqR_bb, ix20, ix21, ix30, ix31, ix32, lenk2, lenk3, pcs0, pcs1, pcs2, pcs3, pcs4, Bool.not_true, Bool.not_false, if_true, if_false, Bool.false_eq_true, reduceCtorEq, ite_true, ite_false]
        exact hk _ ⟨pre, hr4, rfl, by simpa using e, by omega⟩
      · rw [h2] at e
        try simp only [eqR_ii, eqR_ss, eqR_bb, ix20, ix21, ix30, ix31, ix32, lenk2, lenk3, pcs0, pcs1, pcs2, pcs3, pcs4, Bool.not_true, Bool.not_false, if_true, if_false, Bool.false_eq_true, reduceCtorEq, ite_true, ite_false]
        refine compA_inv D.str (fun r' acc => ∃ p2, acc = p2.map D.str ∧ p2 ++ r' = pre ++ c.2.2) trivial ?_ ?_ c.2.2 _ ⟨pre, rfl, rfl⟩
        · rintro v r' acc k3 ⟨p2, rfl, e2⟩ hk3
          have hlen := congrArg List.length e2
          rw [List.length_append, List.length_append, List.length_cons] at hlen
          refine ⟨by rw [List.length_map]; show p2.length < 16777216; omega, ?_⟩
          exact hk3 _ ⟨p2 ++ [v], by rw [List.map_append]; rfl, by rw [← e2]; simp⟩
        · rintro acc ⟨p2, rfl, e2⟩
          rw [List.append_nil] at e2
          subst e2
          exact hk _ ⟨pre ++ c.2.2, hr4, rfl, by rw [← e]; simp, by rw [List.length_append]; omega⟩
  · rintro acc ⟨pre, _, rfl, e, _⟩
    have e : pre = barL cs key := by rw [← e]; simp [barL]
    rw [e]
    exact Fin.here q
def eL (vs : List Str) : D := .ilst (vs.map D.str)
theorem Sto.set_set {S : Sto} {m : Nat} {o o' : O} : (S.set m o).set m o' = S.set m o' := by
  funext k
  unfold Sto.set
  split <;> rfl
theorem mem_valsL {z : Str} {vs : List Str} {S : Sto} {Q : Bool → Prop} : memR (.str z) (.ilst (vs.map D.str)) S Q = Q (hasS vs z) := by
  show inR (.str z) (vs.map D.str) S Q = _
  unfold inR
  rw [all_scl]
  show Q ((vs.map D.str).any fun y => D.eqv y (.str z)) = _
  rw [List.any_map]
  rfl
theorem fm_filter (b : Str → Bool) : ∀ l : List Str, (l.filterMap fun v => if b v = true then some (D.str v) else none) = (l.filter b).map D.str
  | [] => rfl
  | v :: l => by
    rw [List.filterMap_cons, List.filter_cons, fm_filter b l]
    cases h : b v
    · rfl
    · rfl
theorem mem_getD {z : Str} {o : Option (List Str)} {vs : List Str} {S : Sto} {Q : Bool → Prop} : memR (.str z) ((o.map eL).getD (.tup (vs.map D.str))) S Q = Q (hasS (o.getD vs) z) := by
  cases o with
  | none => exact mem_vals
  | some us => exact mem_valsL
theorem fm_some {α : Type} (f : α → D) : ∀ l : List α, (l.filterMap fun y => some (f y)) = l.map f
  | [] => rfl
  | y :: l => by rw [List.filterMap_cons, List.map_cons, fm_some f l]
def tupQ (p : D × D) : D := .tup [p.1, p.2]
theorem pairsQ : ∀ kvs : List (D × D), pairsOf (kvs.map tupQ) = some kvs
  | [] => rfl
  | (a, b) :: r => by
    show (pairsOf (r.map tupQ)).map ((a, b) :: ·) = _
    rw [pairsQ r]; rfl
theorem wanted_ok (k : Nat) (w : Str) (cs : List Cnd) (S : Sto) (Q : D → Sto → Prop) (E : Nat → List D → Sto → Prop) (hn : cs.length ≤ 4) (h4 : ∀ c ∈ cs, c.2.2.length ≤ 4) (q : Q (.idic ((w2 cs).map (dW eL))) S) : Phi Pr (k + 2) 13 [.tup [.str w, .tup (cs.map cd)]] S Q E := by
  refine Phi_fn (ε := [some (.tup [.str w, .tup (cs.map cd)]), none, none, none, none, none]) rfl rfl rfl ?_
  dsimp only [b_wanted]
  try dsimp only [wpSs, wpS, wpE, wpT, wpA, wpI, wpTs, getV, setV, setVs, wipeV, asgT, iterR, isiR, tyOf, subTy, tyB, optI, bfR, seqOf, lstOf, cmpR, newL, binR, idxR]
  dsimp only [newD]
  intro m hm
  try simp only [eqR_ii, eqR_ss, eqR_bb, ix20, ix21, ix30, ix31, ix32, lenk2, lenk3, pcs0, pcs1, pcs2, pcs3, pcs4, Bool.not_true, Bool.not_false, if_true, if_false, Bool.false_eq_true, reduceCtorEq, ite_true, ite_false]
  refine walkL_inv (fun r ε' S' => ∃ (cs' : List Cnd) (F : WT) (a b c1 d : Option D), r = cs'.map cd ∧ ε' = [some (.tup [.str w, .tup (cs.map cd)]), some (.ref m), a, b, c1, d] ∧ S' = S.set m (.dic (F.map (dW eL)) false) ∧ F.length + cs'.length ≤ 4 ∧ cs'.foldl wstep F = w1 cs) (fun _ _ _ _ => trivial) ?_ ?_ _ _ _
    ⟨cs, [], none, none, none, none, rfl, rfl, rfl, by simpa using hn, rfl⟩
  · rintro x r ε' S' kk ⟨cs', F, a, b, c1, d, er, rfl, rfl, hl, hf⟩ hk
    cases cs' with
    | nil => cases er
    | cons c cs' =>
      cases er
      rw [List.foldl_cons] at hf
      have hl : F.length + (cs'.length + 1) ≤ 4 := hl
      refine ⟨rfl, ?_⟩
      try dsimp only [wpSs, wpS, wpE, wpT, wpA, wpI, wpTs, getV, setV, setVs, wipeV, asgT, iterR, isiR, tyOf, subTy, tyB, optI, bfR, seqOf, lstOf, cmpR, newL, binR, idxR]
      try simp only [eqR_ii, eqR_ss, eqR_bb, ix20, ix21, ix30, ix31, ix32, lenk2, lenk3, pcs0, pcs1, pcs2, pcs3, pcs4, Bool.not_true, Bool.not_false, if_true, if_false, Bool.false_eq_true, reduceCtorEq, ite_true, ite_false]
      cases h1 : (c.2.1 == ("in" : Str))
      · try simp only [eqR_ii, eqR_ss, eqR_bb, ix20, ix21, ix30, ix31, ix32, lenk2, lenk3, pcs0, pcs1, pcs2, pcs3, pcs4, Bool.not_true, Bool.not_false, if_true, if_false, Bool.false_eq_true, reduceCtorEq, ite_true, ite_false]
        have e : wstep F c = F := by unfold wstep; rw [if_neg (by rw [h1]; decide)]
        rw [e] at hf
        exact hk _ _ ⟨cs', F, _, _, _, _, rfl, rfl, rfl, by omega, hf⟩
      · try simp only [eqR_ii, eqR_ss, eqR_bb, ix20, ix21, ix30, ix31, ix32, lenk2, lenk3, pcs0, pcs1, pcs2, pcs3, pcs4, Bool.not_true, Bool.not_false, if_true, if_false, Bool.false_eq_true, reduceCtorEq, ite_true, ite_false]
        have e : wstep F c = pW c.1 (c.2.2.filter fun v => hasS ((gW c.1 F).getD c.2.2) v) F := by unfold wstep; rw [if_pos h1]
        refine compL_map D.str (fun v => if hasS ((gW c.1 F).getD c.2.2) v = true then some (D.str v) else none) trivial _ ?_ [] ?_
        · intro v hv k3 hk3
          dsimp only [bmD, dicOf, bmR]
          simp only [Sto.set_same]
          refine ⟨rfl, rfl, ?_⟩
          rw [getK_dW, mem_getD]
          cases h2 : hasS ((gW c.1 F).getD c.2.2) v
          · rw [h2] at hk3; exact hk3
          · rw [h2] at hk3; exact hk3
        · rw [List.nil_append, fm_filter]
          dsimp only [subR]
          simp only [Sto.set_same]
          refine ⟨rfl, by rw [List.length_map]; show F.length < 16777216; omega, ?_⟩
          rw [Sto.set_set]
          have e2 : putKD (.str c.1) (.ilst ((c.2.2.filter fun v => hasS ((gW c.1 F).getD c.2.2) v).map D.str)) (F.map (dW eL)) = (pW c.1 (c.2.2.filter fun v => hasS ((gW c.1 F).getD c.2.2) v) F).map (dW eL) := putKD_dW eL _ _ F
          rw [e2]
          refine hk _ _ ⟨cs', _, _, _, _, _, rfl, rfl, rfl, ?_, by rw [← e]; exact hf⟩
          rw [pW_len]
          split <;> omega
  · rintro ε' S' ⟨cs', F, a, b, c1, d, er, rfl, rfl, hl, hf⟩
    cases cs' with
    | cons c cs' => cases er
    | nil =>
      have hf : F = w1 cs := hf
      subst hf
      try dsimp only [wpSs, wpS, wpE, wpT, wpA, wpI, wpTs, getV, setV, setVs, wipeV, asgT, iterR, isiR, tyOf, subTy, tyB, optI, bfR, seqOf, lstOf, cmpR, newL, binR, idxR]
      dsimp only [dwR]
      simp only [Sto.set_same]
      rw [Sto.set_set, List.map_map]
      refine compL_map (fun y : Str × List Str => D.tup [.str y.1, eL y.2]) (fun y => some (.tup [.str y.1, eL (y.2.filter fun v => !hasS (barL cs y.1) v)])) trivial (w1 cs) ?_ [] ?_
      · rintro y hy k3 hk3
        refine ⟨rfl, rfl, ?_⟩
        dsimp only [eL]
        try dsimp only [wpSs, wpS, wpE, wpT, wpA, wpI, wpTs, getV, setV, setVs, wipeV, asgT, iterR, isiR, tyOf, subTy, tyB, optI, bfR, seqOf, lstOf, cmpR, newL, binR, idxR]
        refine compL_map D.str (fun v => if (!hasS (barL cs y.1) v) = true then some (D.str v) else none) trivial _ ?_ [] ?_
        · intro v hv k4 hk4
          refine barred_ok _ _ _ _ _ _ _ hn h4 ?_
          show memR (.str v) (.ilst ((barL cs y.1).map D.str)) _ _
          rw [mem_valsL]
          cases h2 : hasS (barL cs y.1) v
          · rw [h2] at hk4; exact hk4
          · rw [h2] at hk4; exact hk4
        · rw [List.nil_append, fm_filter (fun v => !hasS (barL cs y.1) v)]
          exact hk3
      · rw [List.nil_append]
        have e1 : ((w1 cs).filterMap fun y => some (D.tup [.str y.1, eL (y.2.filter fun v => !hasS (barL cs y.1) v)])) = ((w2 cs).map (dW eL)).map tupQ := by
          unfold w2
          rw [List.map_map, List.map_map]
          exact fm_some _ (w1 cs)
        rw [e1, pairsQ]
        dsimp only
        rw [mkDic_dW eL (w2_nd cs)]
        exact .inl ⟨S, fun j o e => by rw [Sto.set_ne fun z => by rw [z, hm] at e; cases e]; exact e, q⟩
end L
namespace L
open PySem TH
theorem le_set {S : Sto} {m : Nat} {o : O} (h : S m = none) : Sto.le S (S.set m o) := fun j o' e => by rw [Sto.set_ne fun z => by rw [z, h] at e; cases e]; exact e
abbrev dS : Str × Str → D × D := dW D.str
theorem named_ok (k : Nat) (w : Str) (T : List (Str × Str)) (S : Sto) (Q : D → Sto → Prop) (E : Nat → List D → Sto → Prop) (hl : T.length ≤ 5) (q : Q (.tup [.str w, TZ ((srt T).map tg)]) S) : Phi Pr (k + 1) 17 [.str w, .idic (T.map dS)] S Q E := by
  refine Phi_fn (ε := [some (.str w), some (.idic (T.map dS)), none]) rfl rfl rfl ?_
  dsimp only [b_named]
  try dsimp only [wpSs, wpS, wpE, wpT, wpA, wpI, wpTs, getV, setV, setVs, wipeV, asgT, iterR, isiR, tyOf, subTy, tyB, optI, bfR, seqOf, lstOf, cmpR, newL, binR, idxR]
  dsimp only [dicOf]
  rw [dW_keys, strs_map]
  try dsimp only [wpSs, wpS, wpE, wpT, wpA, wpI, wpTs, getV, setV, setVs, wipeV, asgT, iterR, isiR, tyOf, subTy, tyB, optI, bfR, seqOf, lstOf, cmpR, newL, binR, idxR]
  refine ⟨by rw [List.length_map]; omega, ?_⟩
  have p : (sortS (T.map (·.1))).Perm (T.map (·.1)) := sortO_perm _
  refine compL_map D.str (fun k => some (tg (k, (gW k T).getD ""))) trivial _ ?_ [] ?_
  · intro k hk kk hkk
    have hm := p.mem_iff.mp hk
    cases hg : gW k T with
    | none => exact absurd hm (gW_none.mp hg)
    | some v =>
      rw [hg] at hkk
      try dsimp only [wpSs, wpS, wpE, wpT, wpA, wpI, wpTs, getV, setV, setVs, wipeV, asgT, iterR, isiR, tyOf, subTy, tyB, optI, bfR, seqOf, lstOf, cmpR, newL, binR, idxR]
      rw [if_pos rfl]
      refine ⟨rfl, ?_⟩
      rw [getK_dW, hg]
      exact hkk
  · rw [List.nil_append, fm_some]
    try dsimp only [wpSs, wpS, wpE, wpT, wpA, wpI, wpTs, getV, setV, setVs, wipeV, asgT, iterR, isiR, tyOf, subTy, tyB, optI, bfR, seqOf, lstOf, cmpR, newL, binR, idxR]
    have e : (sortS (T.map (·.1))).map (fun k => tg (k, (gW k T).getD "")) = (srt T).map tg := by
      unfold srt
      rw [List.map_map]; rfl
    rw [e]
    exact Fin.here q
theorem isSome_gW {α : Type} (e : α → D) (key : Str) (M : List (Str × α)) : (getK (.str key) (M.map (dW e))).isSome = (gW key M).isSome := by rw [getK_dW]; cases gW key M <;> rfl
theorem mem_dic {α : Type} {e : α → D} {key : Str} {M : List (Str × α)} {S : Sto} {Q : Bool → Prop} (q : Q (gW key M).isSome) : memR (.str key) (.idic (M.map (dW e))) S Q := by
  show (D.str key).kS = true ∧ Q (getK (.str key) (M.map (dW e))).isSome
  rw [isSome_gW]
  exact ⟨rfl, q⟩
theorem ixv0 {v : Str} {vs : List Str} : ((ixD ((v :: vs).map D.str).length 0).bind fun j => ((v :: vs).map D.str)[j]?) = some (.str v) := by
  have e : ixD ((v :: vs).map D.str).length ((0 : Nat) : Int) = some 0 := ixD_nat (by simp)
  have e : ixD ((v :: vs).map D.str).length 0 = some 0 := e
  rw [e]; rfl
/-- what breaking tells -/
def brkD : Option (List (Str × Str)) → D
  | none => .non
  | some T => .idic (T.map dS)
theorem brk_ok (k : Nat) (w : Str) (cs : List Cnd) (M : WT) (T : List (Str × Str)) (c : Cnd) (S : Sto) (Q : D → Sto → Prop) (E : Nat → List D → Sto → Prop) (hn : cs.length ≤ 4) (h4 : ∀ c ∈ cs, c.2.2.length ≤ 4) (hl : T.length ≤ 4) (q : Q (brkD (brk cs M T c)) S) :
    Phi Pr (k + 2) 16 [.tup [.str w, .tup (cs.map cd)], .idic (M.map (dW eL)), .idic (T.map dS), cd c] S Q E := by
  refine Phi_fn (ε := [some (.tup [.str w, .tup (cs.map cd)]), some (.idic (M.map (dW eL))), some (.idic (T.map dS)), some (cd c), none, none, none, none, none, none]) rfl rfl rfl ?_
  dsimp only [b_breaking, cd]
  try dsimp only [wpSs, wpS, wpE, wpT, wpA, wpI, wpTs, getV, setV, setVs, wipeV, asgT, iterR, isiR, tyOf, subTy, tyB, optI, bfR, seqOf, lstOf, cmpR, newL, binR, idxR]
  refine ⟨rfl, ?_⟩
  try dsimp only [wpSs, wpS, wpE, wpT, wpA, wpI, wpTs, getV, setV, setVs, wipeV, asgT, iterR, isiR, tyOf, subTy, tyB, optI, bfR, seqOf, lstOf, cmpR, newL, binR, idxR]
  dsimp only [dicOf, newD]
  intro m hm
  try dsimp only [wpSs, wpS, wpE, wpT, wpA, wpI, wpTs, getV, setV, setVs, wipeV, asgT, iterR, isiR, tyOf, subTy, tyB, optI, bfR, seqOf, lstOf, cmpR, newL, binR, idxR]
  refine mem_dic ?_
  unfold brk at q
  have put : ∀ (v : Str) {R : Sto → Prop}, R (S.set m (.dic ((pW c.1 v T).map dS) false)) → subR (.ref m) (.str c.1) (.str v) (S.set m (.dic (T.map dS) false)) R := fun v R h => by
    dsimp only [subR]
    simp only [Sto.set_same]
    refine ⟨rfl, by rw [List.length_map]; show T.length < 16777216; omega, ?_⟩
    have e : putKD (.str c.1) (.str v) (T.map dS) = (pW c.1 v T).map dS := putKD_dW D.str c.1 v T
    rw [Sto.set_set, e]
    exact h
  have fin : ∀ T' : List (Str × Str), Q (.idic (T'.map dS)) S → Fin Q (.ref m) (S.set m (.dic (T'.map dS) false)) := fun T' h => Fin.dic Sto.set_same (le_set hm) hm h
  have no : ∀ o, Q .non S → Fin Q .non (S.set m o) := fun o h => .inl ⟨S, le_set hm, h⟩
  cases hg : gW c.1 M with
  | some vs =>
    rw [hg] at q
    dsimp only at q
    dsimp only [Option.isSome]
    try simp only [eqR_ii, eqR_ss, eqR_bb, ix20, ix21, ix30, ix31, ix32, lenk2, lenk3, pcs0, pcs1, pcs2, pcs3, pcs4, Bool.not_true, Bool.not_false, if_true, if_false, Bool.false_eq_true, reduceCtorEq, ite_true, ite_false]
    try dsimp only [wpSs, wpS, wpE, wpT, wpA, wpI, wpTs, getV, setV, setVs, wipeV, asgT, iterR, isiR, tyOf, subTy, tyB, optI, bfR, seqOf, lstOf, cmpR, newL, binR, idxR]

    refine ⟨rfl, ?_⟩
    rw [getK_dW, hg]
    dsimp only [Option.map, eL]
    try dsimp only [wpSs, wpS, wpE, wpT, wpA, wpI, wpTs, getV, setV, setVs, wipeV, asgT, iterR, isiR, tyOf, subTy, tyB, optI, bfR, seqOf, lstOf, cmpR, newL, binR, idxR]
    refine compL_map D.str (fun v => if (hasS c.2.2 v == (c.2.1 == ("out" : Str))) = true then some (D.str v) else none) trivial _ ?_ [] ?_
    · intro v hv kk hk
      refine (show memR (.str v) (.tup (c.2.2.map D.str)) _ _ from ?_)
      rw [mem_vals]
      try dsimp only [wpSs, wpS, wpE, wpT, wpA, wpI, wpTs, getV, setV, setVs, wipeV, asgT, iterR, isiR, tyOf, subTy, tyB, optI, bfR, seqOf, lstOf, cmpR, newL, binR, idxR]
      try simp only [eqR_ii, eqR_ss, eqR_bb, ix20, ix21, ix30, ix31, ix32, lenk2, lenk3, pcs0, pcs1, pcs2, pcs3, pcs4, Bool.not_true, Bool.not_false, if_true, if_false, Bool.false_eq_true, reduceCtorEq, ite_true, ite_false]
      show if (hasS c.2.2 v == (c.2.1 == ("out" : Str))) = true then kk (some (.str v)) _ else kk none _
      cases h2 : (hasS c.2.2 v == (c.2.1 == ("out" : Str)))
      · rw [h2] at hk; exact hk
      · rw [h2] at hk; exact hk
    · rw [List.nil_append, fm_filter (fun v => hasS c.2.2 v == (c.2.1 == ("out" : Str)))]
      cases hf : vs.filter (fun v => hasS c.2.2 v == (c.2.1 == ("out" : Str))) with
      | nil =>
        simp only [hf] at q
        refine eqR_nil rfl ?_
        try dsimp only [wpSs, wpS, wpE, wpT, wpA, wpI, wpTs, getV, setV, setVs, wipeV, asgT, iterR, isiR, tyOf, subTy, tyB, optI, bfR, seqOf, lstOf, cmpR, newL, binR, idxR]
        try simp only [eqR_ii, eqR_ss, eqR_bb, ix20, ix21, ix30, ix31, ix32, lenk2, lenk3, pcs0, pcs1, pcs2, pcs3, pcs4, Bool.not_true, Bool.not_false, if_true, if_false, Bool.false_eq_true, reduceCtorEq, ite_true, ite_false]
        exact no _ q
      | cons v r =>
        simp only [hf] at q
        refine eqR_nil (all_scl _) ?_
        try dsimp only [wpSs, wpS, wpE, wpT, wpA, wpI, wpTs, getV, setV, setVs, wipeV, asgT, iterR, isiR, tyOf, subTy, tyB, optI, bfR, seqOf, lstOf, cmpR, newL, binR, idxR]
        try simp only [eqR_ii, eqR_ss, eqR_bb, ix20, ix21, ix30, ix31, ix32, lenk2, lenk3, pcs0, pcs1, pcs2, pcs3, pcs4, Bool.not_true, Bool.not_false, if_true, if_false, Bool.false_eq_true, reduceCtorEq, ite_true, ite_false]
        rw [ixv0]
        try dsimp only [wpSs, wpS, wpE, wpT, wpA, wpI, wpTs, getV, setV, setVs, wipeV, asgT, iterR, isiR, tyOf, subTy, tyB, optI, bfR, seqOf, lstOf, cmpR, newL, binR, idxR]
        exact put v (fin _ q)
  | none =>
    rw [hg] at q
    dsimp only at q
    dsimp only [Option.isSome]
    try simp only [eqR_ii, eqR_ss, eqR_bb, ix20, ix21, ix30, ix31, ix32, lenk2, lenk3, pcs0, pcs1, pcs2, pcs3, pcs4, Bool.not_true, Bool.not_false, if_true, if_false, Bool.false_eq_true, reduceCtorEq, ite_true, ite_false]
    try dsimp only [wpSs, wpS, wpE, wpT, wpA, wpI, wpTs, getV, setV, setVs, wipeV, asgT, iterR, isiR, tyOf, subTy, tyB, optI, bfR, seqOf, lstOf, cmpR, newL, binR, idxR]

    cases h1 : (c.2.1 == ("in" : Str))
    · rw [h1] at q
      try simp only [eqR_ii, eqR_ss, eqR_bb, ix20, ix21, ix30, ix31, ix32, lenk2, lenk3, pcs0, pcs1, pcs2, pcs3, pcs4, Bool.not_true, Bool.not_false, if_true, if_false, Bool.false_eq_true, reduceCtorEq, ite_true, ite_false]
      simp only [Bool.false_eq_true, if_false] at q
      refine compL_map D.str (fun v => if (!hasS (barL cs c.1) v) = true then some (D.str v) else none) trivial _ ?_ [] ?_
      · intro v hv kk hk
        refine barred_ok _ _ _ _ _ _ _ hn h4 ?_
        show memR (.str v) (.ilst ((barL cs c.1).map D.str)) _ _
        rw [mem_valsL]
        cases h2 : hasS (barL cs c.1) v
        · rw [h2] at hk; exact hk
        · rw [h2] at hk; exact hk
      · rw [List.nil_append, fm_filter (fun v => !hasS (barL cs c.1) v)]
        cases hf : c.2.2.filter (fun v => !hasS (barL cs c.1) v) with
        | nil =>
          simp only [hf] at q
          refine eqR_nil rfl ?_
          try dsimp only [wpSs, wpS, wpE, wpT, wpA, wpI, wpTs, getV, setV, setVs, wipeV, asgT, iterR, isiR, tyOf, subTy, tyB, optI, bfR, seqOf, lstOf, cmpR, newL, binR, idxR]
          try simp only [eqR_ii, eqR_ss, eqR_bb, ix20, ix21, ix30, ix31, ix32, lenk2, lenk3, pcs0, pcs1, pcs2, pcs3, pcs4, Bool.not_true, Bool.not_false, if_true, if_false, Bool.false_eq_true, reduceCtorEq, ite_true, ite_false]
          exact no _ q
        | cons v r =>
          simp only [hf] at q
          refine eqR_nil (all_scl _) ?_
          try dsimp only [wpSs, wpS, wpE, wpT, wpA, wpI, wpTs, getV, setV, setVs, wipeV, asgT, iterR, isiR, tyOf, subTy, tyB, optI, bfR, seqOf, lstOf, cmpR, newL, binR, idxR]
          try simp only [eqR_ii, eqR_ss, eqR_bb, ix20, ix21, ix30, ix31, ix32, lenk2, lenk3, pcs0, pcs1, pcs2, pcs3, pcs4, Bool.not_true, Bool.not_false, if_true, if_false, Bool.false_eq_true, reduceCtorEq, ite_true, ite_false]
          rw [show ((v :: r).map D.str).isEmpty = false from rfl]
          try simp only [eqR_ii, eqR_ss, eqR_bb, ix20, ix21, ix30, ix31, ix32, lenk2, lenk3, pcs0, pcs1, pcs2, pcs3, pcs4, Bool.not_true, Bool.not_false, if_true, if_false, Bool.false_eq_true, reduceCtorEq, ite_true, ite_false]
          simp only [Sto.set_same]
          rw [List.length_map]
          by_cases h4' : T.length = 4
          · rw [if_pos h4'] at q
            rw [h4']
            try simp only [eqR_ii, eqR_ss, eqR_bb, ix20, ix21, ix30, ix31, ix32, lenk2, lenk3, pcs0, pcs1, pcs2, pcs3, pcs4, Bool.not_true, Bool.not_false, if_true, if_false, Bool.false_eq_true, reduceCtorEq, ite_true, ite_false]
            exact no _ q
          · rw [if_neg h4'] at q
            rw [show (((T.length : Nat) : Int) == 4) = false from by rw [beq_eq_false_iff_ne]; omega]
            try simp only [eqR_ii, eqR_ss, eqR_bb, ix20, ix21, ix30, ix31, ix32, lenk2, lenk3, pcs0, pcs1, pcs2, pcs3, pcs4, Bool.not_true, Bool.not_false, if_true, if_false, Bool.false_eq_true, reduceCtorEq, ite_true, ite_false]
            rw [ixv0]
            try dsimp only [wpSs, wpS, wpE, wpT, wpA, wpI, wpTs, getV, setV, setVs, wipeV, asgT, iterR, isiR, tyOf, subTy, tyB, optI, bfR, seqOf, lstOf, cmpR, newL, binR, idxR]
            exact put v (fin _ q)
    · rw [h1] at q
      try simp only [eqR_ii, eqR_ss, eqR_bb, ix20, ix21, ix30, ix31, ix32, lenk2, lenk3, pcs0, pcs1, pcs2, pcs3, pcs4, Bool.not_true, Bool.not_false, if_true, if_false, Bool.false_eq_true, reduceCtorEq, ite_true, ite_false]
      simp only [if_true] at q
      exact fin T q
end L
namespace L
open PySem TH
def prtD : Option (Str × List (Str × Str)) → D
  | none => .non
  | some (w, T) => .tup [.str w, TZ ((srt T).map tg)]
theorem rsl_eL (S : Sto) : ∀ M : WT, RsL S ((M.map (dW eL)).map Prod.snd) ((M.map (dW eL)).map Prod.snd)
  | [] => .nil
  | p :: M => .cons (.ilst (RsL.self_scl (all_scl p.2))) (rsl_eL S M)
theorem any_eL : ∀ M : WT, (((M.map (dW eL)).map Prod.snd).any fun y => D.eqv y (.ilst [])) = M.any fun p => p.2.isEmpty
  | [] => rfl
  | p :: M => by
    rw [List.map_cons, List.map_cons, List.any_cons, List.any_cons, any_eL M]
    congr 1
    show D.eqv (.ilst (p.2.map D.str)) (.ilst []) = _
    cases p.2 <;> rfl
theorem brk_len {cs : List Cnd} {M : WT} {T T' : List (Str × Str)} {c : Cnd} (h : brk cs M T c = some T') : T'.length ≤ T.length + 1 := by
  have key : ∀ v, (pW c.1 v T).length ≤ T.length + 1 := fun v => by rw [pW_len]; split <;> omega
  unfold brk at h
  split at h
  · split at h
    · cases h
    · cases h; exact key _
  · split at h
    · cases h; omega
    · split at h
      · cases h
      · split at h
        · cases h
        · cases h; exact key _
theorem parted_ok (k : Nat) (w ow : Str) (cs ocs : List Cnd) (S : Sto) (Q : D → Sto → Prop) (E : Nat → List D → Sto → Prop) (hp : PickOk w cs) (ho : PickOk ow ocs) (q : Q (prtD (prt w cs ow ocs)) S) :
    Phi Pr (k + 6) 15 [.tup [.str w, .tup (cs.map cd)], .tup [.str ow, .tup (ocs.map cd)]] S Q E := by
  have hn := hp.n
  have h4 : ∀ c ∈ cs, c.2.2.length ≤ 4 := fun c hc => (hp.c c hc).n4
  refine Phi_fn (ε := [some (.tup [.str w, .tup (cs.map cd)]), some (.tup [.str ow, .tup (ocs.map cd)]), none, none, none, none, none, none, none]) rfl rfl rfl ?_
  have l0 : (t0 (w2 cs)).length ≤ 4 := by unfold t0; rw [List.length_map]; exact Nat.le_trans (w2_len cs) hn
  -- from the word on
  have rest : ∀ (h : ¬ ((w2 cs).any fun p => p.2.isEmpty) = true) (x5 x6 x7 x8 : Option D), wpSs Pr (Phi Pr (k + 5)) (tailOf (tailOf (tailOf (tailOf (tailOf (tailOf (tailOf b_parted))))))) [some (.tup [.str w, .tup (cs.map cd)]), some (.tup [.str ow, .tup (ocs.map cd)]), some (.idic ((w2 cs).map (dW eL))), some (.idic ((t0 (w2 cs)).map dS)), some (.str (wrd w ow)), x5, x6, x7, x8] S
      { nx := fun _ S1 => TH.Fin Q .non S1, rt := fun d S1 => TH.Fin Q d S1, ex := fun c l _ S1 => FinX E c l S1 } := by
    intro h x5 x6 x7 x8
    unfold prt at q
    rw [if_neg h] at q
    dsimp only [b_parted, tailOf]
    try dsimp only [wpSs, wpS, wpE, wpT, wpA, wpI, wpTs, getV, setV, setVs, wipeV, asgT, iterR, isiR, tyOf, subTy, tyB, optI, bfR, seqOf, lstOf, cmpR, newL, binR, idxR]
    try simp only [eqR_ii, eqR_ss, eqR_bb, ix20, ix21, ix30, ix31, ix32, lenk2, lenk3, pcs0, pcs1, pcs2, pcs3, pcs4, Bool.not_true, Bool.not_false, if_true, if_false, Bool.false_eq_true, reduceCtorEq, ite_true, ite_false]
    show memR (.str ow) (.tup [.str "", .str (wrd w ow)]) S _
    rw [mem_in]
    cases hb : (("" : Str) == ow || (wrd w ow == ow || false))
    · rw [hb] at q
      try simp only [eqR_ii, eqR_ss, eqR_bb, ix20, ix21, ix30, ix31, ix32, lenk2, lenk3, pcs0, pcs1, pcs2, pcs3, pcs4, Bool.not_true, Bool.not_false, if_true, if_false, Bool.false_eq_true, reduceCtorEq, ite_true, ite_false]
      refine named_ok _ _ _ _ _ _ (Nat.le_succ_of_le l0) ?_
      exact Fin.here q
    · rw [hb, if_pos rfl] at q
      try simp only [eqR_ii, eqR_ss, eqR_bb, ix20, ix21, ix30, ix31, ix32, lenk2, lenk3, pcs0, pcs1, pcs2, pcs3, pcs4, Bool.not_true, Bool.not_false, if_true, if_false, Bool.false_eq_true, reduceCtorEq, ite_true, ite_false]
      refine walkL_inv (fun r ε' S' => S' = S ∧ ∃ (ocs' : List Cnd) (a b c d : Option D), r = ocs'.map cd ∧ ε' = [some (.tup [.str w, .tup (cs.map cd)]), some (.tup [.str ow, .tup (ocs.map cd)]), some (.idic ((w2 cs).map (dW eL))), some (.idic ((t0 (w2 cs)).map dS)), some (.str (wrd w ow)), a, b, c, d] ∧
        ocs.findSome? (brk cs (w2 cs) (t0 (w2 cs))) = ocs'.findSome? (brk cs (w2 cs) (t0 (w2 cs)))) (fun _ _ _ _ => trivial) ?_ ?_ _ _ _ ⟨rfl, ocs, _, _, _, _, rfl, rfl, rfl⟩
      · rintro x r ε' S' kk ⟨rfl, ocs', a, b, c1, d, er, rfl, hf⟩ hk
        cases ocs' with
        | nil => cases er
        | cons c ocs' =>
          cases er
          refine ⟨rfl, ?_⟩
          try dsimp only [wpSs, wpS, wpE, wpT, wpA, wpI, wpTs, getV, setV, setVs, wipeV, asgT, iterR, isiR, tyOf, subTy, tyB, optI, bfR, seqOf, lstOf, cmpR, newL, binR, idxR]
          refine brk_ok _ w cs (w2 cs) (t0 (w2 cs)) c _ _ _ hn h4 l0 ?_
          rw [List.findSome?_cons] at hf
          cases hb2 : brk cs (w2 cs) (t0 (w2 cs)) c with
          | none =>
            rw [hb2] at hf
            dsimp only [brkD]
            try dsimp only [wpSs, wpS, wpE, wpT, wpA, wpI, wpTs, getV, setV, setVs, wipeV, asgT, iterR, isiR, tyOf, subTy, tyB, optI, bfR, seqOf, lstOf, cmpR, newL, binR, idxR]
            try simp only [eqR_ii, eqR_ss, eqR_bb, ix20, ix21, ix30, ix31, ix32, lenk2, lenk3, pcs0, pcs1, pcs2, pcs3, pcs4, Bool.not_true, Bool.not_false, if_true, if_false, Bool.false_eq_true, reduceCtorEq, ite_true, ite_false]
            exact hk _ _ ⟨rfl, ocs', _, _, _, _, rfl, rfl, hf⟩
          | some T =>
            rw [hb2] at hf
            dsimp only at hf
            rw [hf] at q
            dsimp only [brkD]
            try dsimp only [wpSs, wpS, wpE, wpT, wpA, wpI, wpTs, getV, setV, setVs, wipeV, asgT, iterR, isiR, tyOf, subTy, tyB, optI, bfR, seqOf, lstOf, cmpR, newL, binR, idxR]
            try simp only [eqR_ii, eqR_ss, eqR_bb, ix20, ix21, ix30, ix31, ix32, lenk2, lenk3, pcs0, pcs1, pcs2, pcs3, pcs4, Bool.not_true, Bool.not_false, if_true, if_false, Bool.false_eq_true, reduceCtorEq, ite_true, ite_false]
            refine named_ok _ _ _ _ _ _ (Nat.le_trans (brk_len hb2) (Nat.succ_le_succ l0)) ?_
            exact Fin.here q
      · rintro ε' S' ⟨rfl, ocs', a, b, c1, d, er, rfl, hf⟩
        cases ocs' with
        | cons c ocs' => cases er
        | nil =>
          rw [hf] at q
          exact Fin.here q
  dsimp only [b_parted, tailOf] at rest
  dsimp only [b_parted]
  try dsimp only [wpSs, wpS, wpE, wpT, wpA, wpI, wpTs, getV, setV, setVs, wipeV, asgT, iterR, isiR, tyOf, subTy, tyB, optI, bfR, seqOf, lstOf, cmpR, newL, binR, idxR]
  refine need_picker_ok _ _ _ _ _ _ hp ?_
  refine need_picker_ok _ _ _ _ _ _ ho ?_
  refine wanted_ok _ _ _ _ _ _ hn h4 ?_
  refine ⟨.ilst [], _, .ilst .nil, rsl_eL S (w2 cs), Nat.le_trans (Nat.min_le_left _ _) (by decide), ?_⟩
  rw [any_eL]
  by_cases h : ((w2 cs).any fun p => p.2.isEmpty) = true
  · rw [h]
    try dsimp only [wpSs, wpS, wpE, wpT, wpA, wpI, wpTs, getV, setV, setVs, wipeV, asgT, iterR, isiR, tyOf, subTy, tyB, optI, bfR, seqOf, lstOf, cmpR, newL, binR, idxR]
    try simp only [eqR_ii, eqR_ss, eqR_bb, ix20, ix21, ix30, ix31, ix32, lenk2, lenk3, pcs0, pcs1, pcs2, pcs3, pcs4, Bool.not_true, Bool.not_false, if_true, if_false, Bool.false_eq_true, reduceCtorEq, ite_true, ite_false]
    unfold prt at q
    rw [if_pos h] at q
    exact Fin.here q
  · have rest := rest h
    rw [Bool.not_eq_true] at h
    rw [h]
    try dsimp only [wpSs, wpS, wpE, wpT, wpA, wpI, wpTs, getV, setV, setVs, wipeV, asgT, iterR, isiR, tyOf, subTy, tyB, optI, bfR, seqOf, lstOf, cmpR, newL, binR, idxR]
    try simp only [eqR_ii, eqR_ss, eqR_bb, ix20, ix21, ix30, ix31, ix32, lenk2, lenk3, pcs0, pcs1, pcs2, pcs3, pcs4, Bool.not_true, Bool.not_false, if_true, if_false, Bool.false_eq_true, reduceCtorEq, ite_true, ite_false]
    try dsimp only [wpSs, wpS, wpE, wpT, wpA, wpI, wpTs, getV, setV, setVs, wipeV, asgT, iterR, isiR, tyOf, subTy, tyB, optI, bfR, seqOf, lstOf, cmpR, newL, binR, idxR]
    dsimp only [dwR]
    rw [List.map_map]
    refine compL_map (fun y : Str × List Str => D.tup [.str y.1, eL y.2]) (fun y => some (.tup [.str y.1, .str (y.2.headD "")])) trivial (w2 cs) ?_ [] ?_
    · rintro ⟨a, vs⟩ hy k3 hk3
      refine ⟨rfl, rfl, ?_⟩
      cases vs with
      | nil => exact absurd (List.any_eq_true.mpr ⟨_, hy, rfl⟩) (by rw [h]; decide)
      | cons v vs =>
        dsimp only [eL]
        try dsimp only [wpSs, wpS, wpE, wpT, wpA, wpI, wpTs, getV, setV, setVs, wipeV, asgT, iterR, isiR, tyOf, subTy, tyB, optI, bfR, seqOf, lstOf, cmpR, newL, binR, idxR]
        rw [ixv0]
        exact hk3
    · rw [List.nil_append, fm_some]
      have e1 : ((w2 cs).map fun y => D.tup [.str y.1, .str (y.2.headD "")]) = ((t0 (w2 cs)).map dS).map tupQ := by
        unfold t0
        rw [List.map_map, List.map_map]
        rfl
      rw [e1, pairsQ]
      dsimp only
      rw [mkDic_dW D.str (by rw [t0_keys]; exact w2_nd cs)]
      try dsimp only [wpSs, wpS, wpE, wpT, wpA, wpI, wpTs, getV, setV, setVs, wipeV, asgT, iterR, isiR, tyOf, subTy, tyB, optI, bfR, seqOf, lstOf, cmpR, newL, binR, idxR]
      try simp only [eqR_ii, eqR_ss, eqR_bb, ix20, ix21, ix30, ix31, ix32, lenk2, lenk3, pcs0, pcs1, pcs2, pcs3, pcs4, Bool.not_true, Bool.not_false, if_true, if_false, Bool.false_eq_true, reduceCtorEq, ite_true, ite_false]
      unfold wrd at rest
      cases hw : (w == ("" : Str))
      · rw [hw] at rest
        try simp only [eqR_ii, eqR_ss, eqR_bb, ix20, ix21, ix30, ix31, ix32, lenk2, lenk3, pcs0, pcs1, pcs2, pcs3, pcs4, Bool.not_true, Bool.not_false, if_true, if_false, Bool.false_eq_true, reduceCtorEq, ite_true, ite_false]
        exact rest _ _ _ _
      · rw [hw] at rest
        try simp only [eqR_ii, eqR_ss, eqR_bb, ix20, ix21, ix30, ix31, ix32, lenk2, lenk3, pcs0, pcs1, pcs2, pcs3, pcs4, Bool.not_true, Bool.not_false, if_true, if_false, Bool.false_eq_true, reduceCtorEq, ite_true, ite_false]
        try dsimp only [wpSs, wpS, wpE, wpT, wpA, wpI, wpTs, getV, setV, setVs, wipeV, asgT, iterR, isiR, tyOf, subTy, tyB, optI, bfR, seqOf, lstOf, cmpR, newL, binR, idxR]
        try simp only [eqR_ii, eqR_ss, eqR_bb, ix20, ix21, ix30, ix31, ix32, lenk2, lenk3, pcs0, pcs1, pcs2, pcs3, pcs4, Bool.not_true, Bool.not_false, if_true, if_false, Bool.false_eq_true, reduceCtorEq, ite_true, ite_false]
        cases ha : (ow == ("a" : Str))
        · rw [ha] at rest
          try simp only [eqR_ii, eqR_ss, eqR_bb, ix20, ix21, ix30, ix31, ix32, lenk2, lenk3, pcs0, pcs1, pcs2, pcs3, pcs4, Bool.not_true, Bool.not_false, if_true, if_false, Bool.false_eq_true, reduceCtorEq, ite_true, ite_false]
          exact rest _ _ _ _
        · rw [ha] at rest
          try simp only [eqR_ii, eqR_ss, eqR_bb, ix20, ix21, ix30, ix31, ix32, lenk2, lenk3, pcs0, pcs1, pcs2, pcs3, pcs4, Bool.not_true, Bool.not_false, if_true, if_false, Bool.false_eq_true, reduceCtorEq, ite_true, ite_false]
          exact rest _ _ _ _
end L
namespace L
open PySem TH
/-! ### what the fourth law asks, in plain words -/
def L6 : List Str := ["a", "b", "c", "d", "room", "z"]
theorem key6 : ∀ s ∈ L6, runB s lowA 6 = true ∧ s.length ≤ SZ := by
  intro s hs
  unfold L6 at hs
  simp only [List.mem_cons, List.not_mem_nil, or_false] at hs
  rcases hs with rfl | rfl | rfl | rfl | rfl | rfl <;> exact ⟨by decide +kernel, by decide +kernel⟩
theorem nd6 : L6.Nodup := by unfold L6; decide +kernel
def xs1 : List Str := ["x"]
def xs2 : List Str := ["x", "y"]
def qs1 : List Str := ["q"]
/-- the conditions that are drawn: m keys of the row, each wanted -/
structure C4 (F : List Str) (m : Nat) (cs : List Cnd) : Prop where
  p : F.Perm L6
  m4 : m ≤ 4
  k : cs.map (·.1) = F.take m
  c : ∀ c ∈ cs, c.2.1 = "in" ∧ (c.2.2 = xs1 ∨ c.2.2 = xs2)
theorem vals_ok {vs : List Str} (h : vs = xs1 ∨ vs = xs2 ∨ vs = qs1) : vs ≠ [] ∧ vs.length ≤ 4 ∧ (∀ s ∈ vs, runB s lowS 6 = true ∧ s.length ≤ SZ) ∧ Rises vs ∧ ("" : Str) ∉ vs := by
  rcases h with rfl | rfl | rfl
  · refine ⟨by decide +kernel, by decide +kernel, fun s hs => ?_, List.pairwise_singleton _ _, by decide +kernel⟩
    unfold xs1 at hs
    rw [List.mem_singleton] at hs
    subst hs
    exact ⟨by decide +kernel, by decide +kernel⟩
  · refine ⟨by decide +kernel, by decide +kernel, fun s hs => ?_, ?_, by decide +kernel⟩
    · unfold xs2 at hs
      simp only [List.mem_cons, List.not_mem_nil, or_false] at hs
      rcases hs with rfl | rfl <;> exact ⟨by decide +kernel, by decide +kernel⟩
    · unfold Rises xs2
      refine List.Pairwise.cons (fun b hb => ?_) (List.pairwise_singleton _ _)
      rw [List.mem_singleton] at hb
      subst hb
      decide +kernel
  · refine ⟨by decide +kernel, by decide +kernel, fun s hs => ?_, List.pairwise_singleton _ _, by decide +kernel⟩
    unfold qs1 at hs
    rw [List.mem_singleton] at hs
    subst hs
    exact ⟨by decide +kernel, by decide +kernel⟩
theorem cnd4 {c : Cnd} (hk : c.1 ∈ L6) (hh : c.2.1 = "in" ∨ c.2.1 = "out") (hv : c.2.2 = xs1 ∨ c.2.2 = xs2 ∨ c.2.2 = qs1) : CndOk c := by
  obtain ⟨v1, v2, v3, v4, _⟩ := vals_ok hv
  exact ⟨(key6 _ hk).1, (key6 _ hk).2, hh, v1, v2, v3, v4⟩
section
variable {F : List Str} {m : Nat} {cs : List Cnd} (h : C4 F m cs)
include h
theorem C4.nd : F.Nodup := h.p.symm.nodup nd6
theorem C4.len : cs.length = m := by
  have e := congrArg List.length h.k
  rw [List.length_map, List.length_take, h.p.length_eq] at e
  have := h.m4
  have : L6.length = 6 := rfl
  omega
theorem C4.key {c : Cnd} (hc : c ∈ cs) : c.1 ∈ F.take m := by rw [← h.k]; exact List.mem_map.mpr ⟨c, hc, rfl⟩
theorem C4.cnd {c : Cnd} (hc : c ∈ cs) : CndOk c := cnd4 (h.p.mem_iff.mp (List.mem_of_mem_take (h.key hc))) (.inl (h.c c hc).1) ((h.c c hc).2.imp_right .inl)
theorem C4.ok : CsOk cs := ⟨fun c hc => .inl (h.c c hc).1, fun c hc => (vals_ok ((h.c c hc).2.imp_right .inl)).2.2.2.2⟩
theorem C4.pick {w : Str} (hw : w = "" ∨ w = "load") : PickOk w cs := by
  refine ⟨?_, ?_, by rw [h.len]; exact h.m4, fun c hc => h.cnd hc⟩
  · rcases hw with rfl | rfl
    · exact .inl rfl
    · exact .inr (by decide +kernel)
  · rcases hw with rfl | rfl <;> decide +kernel
theorem C4.bar (k : Str) : barL cs k = [] := by
  refine List.eq_nil_iff_forall_not_mem.mpr fun v hv => ?_
  obtain ⟨c, hc, _, ho, _⟩ := mem_bar.mp hv
  rw [(h.c c hc).1] at ho
  exact absurd ho (by decide +kernel)
theorem C4.full : ¬ ((w2 cs).any fun p => p.2.isEmpty) = true := by
  intro z
  obtain ⟨⟨k, vs⟩, hp, hv⟩ := List.any_eq_true.mp z
  have hg := gW_of_mem (w2_nd cs) hp
  have : ("x" : Str) ∈ vs := (w2_so hg "x").mpr ⟨fun c hc _ _ => by rcases (h.c c hc).2 with e | e <;> rw [e] <;> decide +kernel, by rw [h.bar]; exact List.not_mem_nil⟩
  have hv : vs.isEmpty = true := hv
  rw [List.isEmpty_iff.mp hv] at this
  cases this
theorem C4.w2len : (w2 cs).length = m := by
  have nd1 : (cs.map (·.1)).Nodup := by rw [h.k]; exact List.Sublist.nodup (List.take_sublist _ _) h.nd
  have p : ((w2 cs).map (·.1)).Perm (cs.map (·.1)) := by
    refine (List.perm_ext_iff_of_nodup (w2_nd cs) nd1).mpr fun k => ?_
    constructor
    · intro hk
      refine Classical.byContradiction fun z => ?_
      have : gW k (w2 cs) = none := w2_no.mpr fun c hc e _ => z (List.mem_map.mpr ⟨c, hc, e⟩)
      exact gW_none.mp this hk
    · intro hk
      refine Classical.byContradiction fun z => ?_
      obtain ⟨c, hc, e⟩ := List.mem_map.mp hk
      exact w2_no.mp (gW_none.mpr z) c hc e (h.c c hc).1
  have := p.length_eq
  rw [List.length_map, List.length_map, h.len] at this
  exact this
theorem C4.out {x : Str} (hx : F[5]? = some x) : x ∈ L6 ∧ gW x (w2 cs) = none := by
  refine ⟨h.p.mem_iff.mp (List.mem_of_getElem? hx), w2_no.mpr fun c hc e _ => ?_⟩
  have h1 : x ∈ F.take m := e ▸ h.key hc
  have h2 : x ∈ F.drop m := by
    have : (F.drop m)[5 - m]? = some x := by rw [List.getElem?_drop, show m + (5 - m) = 5 by have := h.m4; omega]; exact hx
    exact List.mem_of_getElem? this
  have nd := h.nd
  rw [← List.take_append_drop m F, List.nodup_append] at nd
  exact nd.2.2 x h1 x h2 rfl
end
theorem wrd_self {w : Str} (hw : w = "" ∨ w = "load") : (("" : Str) == w || (wrd w w == w || false)) = true := by
  rw [fits]
  rcases hw with rfl | rfl
  · exact .inl rfl
  · exact .inr (by unfold wrd; rw [if_neg (by decide +kernel)])
theorem one_some (f : Cnd → Option (List (Str × Str))) (c : Cnd) : [c].findSome? f = f c := by
  rw [List.findSome?_cons]
  cases f c <;> rfl
def put4 (m : Nat) (x : Str) (T : List (Str × Str)) : List Str → Option (List (Str × Str))
  | [] => none
  | v :: _ => if m = 4 then none else some (pW x v T)
theorem prt4 {F : List Str} {m : Nat} {cs : List Cnd} (h : C4 F m cs) {w x how : Str} (hw : w = "" ∨ w = "load") {vs : List Str} (hx : F[5]? = some x) (hv : vs = xs1 ∨ vs = xs2 ∨ vs = qs1) :
    (how = "in" → prt w cs w [(x, how, vs)] = some (wrd w w, t0 (w2 cs))) ∧ (how = "out" → m = 4 → prt w cs w [(x, how, vs)] = none) ∧ (how = "out" → m ≠ 4 → ∃ v ∈ vs, prt w cs w [(x, how, vs)] = some (wrd w w, pW x v (t0 (w2 cs)))) := by
  have e : prt w cs w [(x, how, vs)] = (brk cs (w2 cs) (t0 (w2 cs)) (x, how, vs)).map fun T => (wrd w w, T) := by
    unfold prt
    rw [if_neg h.full, if_pos (wrd_self hw), one_some]
  have hg := (h.out hx).2
  have l0 : (t0 (w2 cs)).length = m := by unfold t0; rw [List.length_map]; exact h.w2len
  have b : brk cs (w2 cs) (t0 (w2 cs)) (x, how, vs) = if (how == ("in" : Str)) = true then some (t0 (w2 cs)) else put4 m x (t0 (w2 cs)) vs := by
    unfold brk
    simp only [hg]
    have f : vs.filter (fun v => !hasS (barL cs x) v) = vs := by
      rw [h.bar]
      exact List.filter_eq_self.mpr fun v _ => rfl
    rw [f, l0]
    cases vs <;> rfl
  rw [e, b]
  obtain ⟨v1, _⟩ := vals_ok hv
  refine ⟨fun z => by rw [z]; rfl, fun z z2 => ?_, fun z z2 => ?_⟩
  · rw [z, if_neg (by rw [in_beq_out]; decide)]
    cases vs with
    | nil => rfl
    | cons v r => show Option.map _ (if m = 4 then none else some (pW x v (t0 (w2 cs)))) = _; rw [if_pos z2]; rfl
  · rw [z, if_neg (by rw [in_beq_out]; decide)]
    cases vs with
    | nil => exact absurd rfl v1
    | cons v r => exact ⟨v, List.mem_cons_self, by show Option.map _ (if m = 4 then none else some (pW x v (t0 (w2 cs)))) = _; rw [if_neg z2]; rfl⟩
theorem name4 {w ow nw : Str} {cs ocs : List Cnd} {T : List (Str × Str)} (h : Part w cs ow ocs nw T) (d : PickOk w cs) (d' : PickOk ow ocs) : (runB nw lowA 8 = true ∧ nw.length ≤ SZ) ∧ (srt T).length ≤ 4 ∧ (∀ p ∈ srt T, TagOk p) ∧ Rises ((srt T).map (·.1)) := by
  refine ⟨?_, by rw [srt_len]; exact h.len, fun p hp => ?_, srt_rise h.nd⟩
  · rw [h.w]
    unfold wrd
    by_cases e : w = ""
    · rw [if_pos (by rw [e]; rfl)]
      split <;> exact ⟨by decide +kernel, by decide +kernel⟩
    · rw [if_neg (by simpa using e)]
      exact ⟨d.hw.resolve_left e, d.wl⟩
  · obtain ⟨c, hc, e1, e2⟩ := h.fr p ((mem_srt h.nd).mp hp)
    have ok : CndOk c := (List.mem_append.mp hc).elim (d.c c) (d'.c c)
    exact ⟨by rw [e1]; exact ok.k, (ok.v _ e2).1, by rw [e1]; exact ok.kl, (ok.v _ e2).2⟩
theorem less_none {w : Str} {cs cs' : List Cnd} (hl : (w2 cs).length ≤ 4) (ok : CsOk cs) (s : ∀ c ∈ cs', c ∈ cs) : prt w cs w cs' = none := by
  cases e : prt w cs w cs' with
  | none => rfl
  | some p =>
    obtain ⟨nw, T⟩ := p
    have P := prt_some hl (ok.sub s) e
    rcases P.no with z | ⟨c, hc, z⟩
    · exact absurd (by rw [P.w]; exact wrd_fit w w) z
    · rw [P.g.cA ok c (s c hc)] at z; cases z
end L
namespace L
open PySem TH
theorem compL_st {Y : Type} {W : Sto → Prop} {step : D → Sto → (Option D → Sto → Prop) → Prop} {fin : List D → Sto → Prop} (g : Y → D) (I : List Y → List D → Sto → Prop) (hW : ∀ r acc S, I r acc S → W S)
    (hs : ∀ y r acc S (k : Option D → Sto → Prop), I (y :: r) acc S → (∀ d S', I r (acc ++ [d]) S' → k (some d) S') → step (g y) S k) (hf : ∀ acc S, I [] acc S → fin acc S) : ∀ ys acc S, I ys acc S → compL W step fin (ys.map g) acc S
  | [], acc, S, h => ⟨hW _ _ _ h, hf acc S h⟩
  | y :: ys, acc, S, h => ⟨hW _ _ _ h, hs y ys acc S _ h fun d S' h' => compL_st g I hW hs hf ys (acc ++ [d]) S' h'⟩
theorem cut_to (l : List D) (r : Int) (h0 : 0 ≤ r) : cutD l none (some r) = l.take r.toNat := by
  unfold cutD
  have e0 : slB l.length 0 none = 0 := rfl
  have e1 : slB l.length l.length (some r) = min r.toNat l.length := by
    show (if r < 0 then _ else _) = _
    rw [if_neg (by omega)]
  rw [e0, e1, List.drop_zero, Nat.sub_zero]
  by_cases h : r.toNat ≤ l.length
  · rw [Nat.min_eq_left h]
  · rw [Nat.min_eq_right (by omega), List.take_of_length_le (Nat.le_refl _), List.take_of_length_le (by omega)]
theorem wk_tg : ∀ l : List (Str × Str), wkD.wkL (l.map tg) = l.map tg
  | [] => rfl
  | p :: l => by
    rw [List.map_cons]
    show wkD (tg p) :: wkD.wkL (l.map tg) = _
    rw [wk_tg l]; rfl
theorem wk_found (nw : Str) (l : List (Str × Str)) : wkD (.tup [.str nw, TZ (l.map tg)]) = .tup [.str nw, .tup (l.map tg)] := by
  show D.tup [.str nw, .tup (wkD.wkL (l.map tg))] = _
  rw [wk_tg]
theorem ix5 {F : List Str} {x : Str} (h : F[5]? = some x) : ((ixD (F.map D.str).length 5).bind fun j => (F.map D.str)[j]?) = some (.str x) := by
  have hl : 5 < F.length := (List.getElem?_eq_some_iff.mp h).1
  have e : ixD (F.map D.str).length ((5 : Nat) : Int) = some 5 := ixD_nat (by rw [List.length_map]; exact hl)
  have e : ixD (F.map D.str).length 5 = some 5 := e
  rw [e]
  show (F.map D.str)[5]? = _
  rw [List.getElem?_map, h]; rfl
def hows (r : Int) : Str := if r = 0 then "in" else "out"
def headOf : ISs → IS
  | .cons s _ => s
  | .nil => .pass
theorem seq_eq {P : Prog} {Φ : FnSem} {s : IS} {r : ISs} {ε : TH.Env} {S : Sto} {N : En} : wpSs P Φ (.cons s r) ε S N = wpS P Φ s ε S { N with nx := fun ε1 S1 => wpSs P Φ r ε1 S1 N } := rfl
def lw : Nat → ISs
  | 0 => b_law
  | k + 1 => tailOf (lw k)
theorem lw0 : b_law = .cons (headOf (lw 0)) (lw 1) := rfl
theorem lw1 : lw 1 = .cons (headOf (lw 1)) (lw 2) := rfl
theorem lw2 : lw 2 = .cons (headOf (lw 2)) (lw 3) := rfl
theorem lw3 : lw 3 = .cons (headOf (lw 3)) (lw 4) := rfl
theorem lw4 : lw 4 = .cons (headOf (lw 4)) (lw 5) := rfl
theorem lw5 : lw 5 = .cons (headOf (lw 5)) (lw 6) := rfl
theorem lw6 : lw 6 = .cons (headOf (lw 6)) (lw 7) := rfl
theorem lw7 : lw 7 = .cons (headOf (lw 7)) (lw 8) := rfl
theorem lw8 : lw 8 = .cons (headOf (lw 8)) (lw 9) := rfl
theorem lw9 : lw 9 = .cons (headOf (lw 9)) (lw 10) := rfl
theorem lw10 : lw 10 = .cons (headOf (lw 10)) (lw 11) := rfl
theorem lw11 : lw 11 = .cons (headOf (lw 11)) (lw 12) := rfl
theorem lw12 : lw 12 = .cons (headOf (lw 12)) .nil := rfl
section
variable {n : Nat} {F : List Str} {m : Nat} {cs : List Cnd} {w x how : Str} {vs : List Str} {S : Sto} {N : En}
def E4 (n : Nat) (F : List Str) (m : Nat) (cs : List Cnd) (w how : Str) (vs : List Str) (o8 o9 : Option D) : TH.Env := [some (.ref 0), some (.ref n), some (.ilst (F.map D.str)), some (.int m), some (.str w), some (.tup [.str w, .tup (cs.map cd)]), some (.str how), some (.tup (vs.map D.str)), o8, o9, none]
theorem end_ok {r : Nat} {o8 : Option D} (hp : PickOk w cs) (ok : CsOk cs) (hl4 : (w2 cs).length ≤ 4) (q : N.rt (.bl true) S) : wpSs Pr (Phi Pr 11) (lw 12) (E4 n F m cs w how vs o8 (some (.tup ((cs.take r).map cd)))) S N := by
  rw [lw12, seq_eq]
  dsimp only [headOf, lw, b_law, tailOf, E4]
  try dsimp only [wpSs, wpS, wpE, wpT, wpA, wpI, wpTs, getV, setV, setVs, wipeV, asgT, iterR, isiR, tyOf, subTy, tyB, optI, bfR, seqOf, lstOf, cmpR, newL, binR, idxR]
  refine parted_ok _ _ _ _ _ _ _ _ hp ⟨hp.hw, hp.wl, by rw [List.length_take]; have := hp.n; omega, fun c hc => hp.c c (List.mem_of_mem_take hc)⟩ ?_
  rw [less_none hl4 ok fun c hc => List.mem_of_mem_take hc]
  dsimp only [prtD]
  try dsimp only [wpSs, wpS, wpE, wpT, wpA, wpI, wpTs, getV, setV, setVs, wipeV, asgT, iterR, isiR, tyOf, subTy, tyB, optI, bfR, seqOf, lstOf, cmpR, newL, binR, idxR]
  exact q
theorem inner_ok {o8 : Option D} (hm : m ≤ 4) (hp : PickOk w cs) (ok : CsOk cs) (hl4 : (w2 cs).length ≤ 4) (dn : Dn S n) (q : ∀ S', N.rt (.bl true) S') : wpSs Pr (Phi Pr 11) (lw 11) (E4 n F m cs w how vs o8 none) S N := by
  rw [lw11, seq_eq]
  generalize hR : (fun ε1 S1 => wpSs Pr (Phi Pr 11) (lw 12) ε1 S1 N) = R
  dsimp only [headOf, lw, b_law, tailOf, E4]
  try dsimp only [wpSs, wpS, wpE, wpT, wpA, wpI, wpTs, getV, setV, setVs, wipeV, asgT, iterR, isiR, tyOf, subTy, tyB, optI, bfR, seqOf, lstOf, cmpR, newL, binR, idxR]
  refine off_ok _ _ _ (by omega) (by omega) _ _ _ dn fun r S2 r0 r3 ds => ?_
  try dsimp only [wpSs, wpS, wpE, wpT, wpA, wpI, wpTs, getV, setV, setVs, wipeV, asgT, iterR, isiR, tyOf, subTy, tyB, optI, bfR, seqOf, lstOf, cmpR, newL, binR, idxR]
  dsimp only [slcR]
  rw [cut_to _ _ r0, ← List.map_take, ← hR]
  exact end_ok hp ok hl4 (q _)
theorem getz {x v : Str} {T : List (Str × Str)} (e : gW x T = some v) (nd : (T.map (·.1)).Nodup) : getK (.str x) (mkDic ((srt T).map prD)) = some (.str v) := by
  have e2 : mkDic ((srt T).map prD) = (srt T).map prD := mkDic_dW D.str (srt_nd nd)
  rw [e2]
  have e3 : getK (.str x) ((srt T).map prD) = (gW x (srt T)).map D.str := getK_dW D.str x (srt T)
  rw [e3, gW_srt, e]; rfl
theorem checks_ok {nw : Str} {T : List (Str × Str)} (hm : m ≤ 4) (hx : F[5]? = some x) (hh : how = "in" ∨ how = "out") (hp : PickOk w cs) (ok : CsOk cs) (hl4 : (w2 cs).length ≤ 4) (ho : PickOk w [(x, how, vs)]) (P : Part w cs w [(x, how, vs)] nw T) (hv : how = "out" → ∃ v ∈ vs, gW x T = some v) (dn : Dn S n) (q : ∀ S', N.rt (.bl true) S') :
    wpSs Pr (Phi Pr 11) (lw 9) (E4 n F m cs w how vs (some (.tup [.str nw, TZ ((srt T).map tg)])) none) S N := by
  obtain ⟨n1, n2, n3, n4⟩ := name4 P hp ho
  rw [lw9, seq_eq]
  generalize hR : (fun ε1 S1 => wpSs Pr (Phi Pr 11) (lw 10) ε1 S1 N) = R
  dsimp only [headOf, lw, b_law, tailOf, E4]
  try dsimp only [wpSs, wpS, wpE, wpT, wpA, wpI, wpTs, getV, setV, setVs, wipeV, asgT, iterR, isiR, tyOf, subTy, tyB, optI, bfR, seqOf, lstOf, cmpR, newL, binR, idxR]
  rw [wk_found]
  try dsimp only [wpSs, wpS, wpE, wpT, wpA, wpI, wpTs, getV, setV, setVs, wipeV, asgT, iterR, isiR, tyOf, subTy, tyB, optI, bfR, seqOf, lstOf, cmpR, newL, binR, idxR]
  try simp only [eqR_ii, eqR_ss, eqR_bb, ix20, ix21, ix30, ix31, ix32, lenk2, lenk3, pcs0, pcs1, pcs2, pcs3, pcs4, Bool.not_true, Bool.not_false, if_true, if_false, Bool.false_eq_true, reduceCtorEq, ite_true, ite_false]
  refine picks_ok _ _ _ _ _ _ _ _ hp n1.1 n1.2 n2 n3 n4 ?_
  rw [P.picks ok]
  try dsimp only [wpSs, wpS, wpE, wpT, wpA, wpI, wpTs, getV, setV, setVs, wipeV, asgT, iterR, isiR, tyOf, subTy, tyB, optI, bfR, seqOf, lstOf, cmpR, newL, binR, idxR]
  try simp only [eqR_ii, eqR_ss, eqR_bb, ix20, ix21, ix30, ix31, ix32, lenk2, lenk3, pcs0, pcs1, pcs2, pcs3, pcs4, Bool.not_true, Bool.not_false, if_true, if_false, Bool.false_eq_true, reduceCtorEq, ite_true, ite_false]
  have hlm : ((srt T).map tg).length = (srt T).length := List.length_map _
  rw [show decide ((4 : Int) < ((((srt T).map tg).length : Nat) : Int)) = false from decide_eq_false (by rw [hlm]; omega)]
  try simp only [eqR_ii, eqR_ss, eqR_bb, ix20, ix21, ix30, ix31, ix32, lenk2, lenk3, pcs0, pcs1, pcs2, pcs3, pcs4, Bool.not_true, Bool.not_false, if_true, if_false, Bool.false_eq_true, reduceCtorEq, ite_true, ite_false]
  rw [← hR]
  clear hR R
  show wpSs Pr (Phi Pr 11) (lw 10) _ _ _
  rw [lw10, seq_eq]
  generalize hR : (fun ε1 S1 => wpSs Pr (Phi Pr 11) (lw 11) ε1 S1 N) = R
  dsimp only [headOf, lw, b_law, tailOf]
  try dsimp only [wpSs, wpS, wpE, wpT, wpA, wpI, wpTs, getV, setV, setVs, wipeV, asgT, iterR, isiR, tyOf, subTy, tyB, optI, bfR, seqOf, lstOf, cmpR, newL, binR, idxR]
  try simp only [eqR_ii, eqR_ss, eqR_bb, ix20, ix21, ix30, ix31, ix32, lenk2, lenk3, pcs0, pcs1, pcs2, pcs3, pcs4, Bool.not_true, Bool.not_false, if_true, if_false, Bool.false_eq_true, reduceCtorEq, ite_true, ite_false]
  rcases hh with z | z
  · have z2 : (how == ("out" : Str)) = false := by rw [z]; exact out_beq_in
    rw [z2]
    try simp only [eqR_ii, eqR_ss, eqR_bb, ix20, ix21, ix30, ix31, ix32, lenk2, lenk3, pcs0, pcs1, pcs2, pcs3, pcs4, Bool.not_true, Bool.not_false, if_true, if_false, Bool.false_eq_true, reduceCtorEq, ite_true, ite_false]
    rw [← hR]
    exact inner_ok hm hp ok hl4 dn q
  · have z2 : (how == ("out" : Str)) = true := by rw [z]; simp
    rw [z2]
    try simp only [eqR_ii, eqR_ss, eqR_bb, ix20, ix21, ix30, ix31, ix32, lenk2, lenk3, pcs0, pcs1, pcs2, pcs3, pcs4, Bool.not_true, Bool.not_false, if_true, if_false, Bool.false_eq_true, reduceCtorEq, ite_true, ite_false]
    obtain ⟨v, hv1, hv2⟩ := hv z
    refine (show (match pairsOf ((srt T).map tg) with
      | some kvs => (kvs.all fun p => p.1.kS) = true ∧ newD false (mkDic kvs) S _
      | none => False) from ?_)
    rw [pairs_tg]
    dsimp only [newD, bmD, dicOf]
    refine ⟨?_, rfl, ?_⟩
    · rw [List.all_map]
      exact List.all_eq_true.mpr fun p _ => rfl
    · rw [ix5 hx]
      dsimp only [bmR, dicOf]
      rw [getz hv2 P.nd]
      refine ⟨rfl, ?_⟩
      show memR (.str v) (.tup (vs.map D.str)) S _
      rw [mem_vals, any_true hv1]
      try dsimp only [wpSs, wpS, wpE, wpT, wpA, wpI, wpTs, getV, setV, setVs, wipeV, asgT, iterR, isiR, tyOf, subTy, tyB, optI, bfR, seqOf, lstOf, cmpR, newL, binR, idxR]
      try simp only [eqR_ii, eqR_ss, eqR_bb, ix20, ix21, ix30, ix31, ix32, lenk2, lenk3, pcs0, pcs1, pcs2, pcs3, pcs4, Bool.not_true, Bool.not_false, if_true, if_false, Bool.false_eq_true, reduceCtorEq, ite_true, ite_false]
      rw [← hR]
      exact inner_ok hm hp ok hl4 dn q
theorem found_ok (h : C4 F m cs) (hw : w = "" ∨ w = "load") (hx : F[5]? = some x) (hh : how = "in" ∨ how = "out") (hv : vs = xs1 ∨ vs = xs2 ∨ vs = qs1) (dn : Dn S n) (q : ∀ S', N.rt (.bl true) S') : wpSs Pr (Phi Pr 11) (lw 7) (E4 n F m cs w how vs none none) S N := by
  have hp := h.pick hw
  obtain ⟨x6, hg⟩ := h.out hx
  have ho : PickOk w [(x, how, vs)] := ⟨hp.hw, hp.wl, by show 1 ≤ 4; omega, fun c hc => by rw [List.mem_singleton] at hc; subst hc; exact cnd4 x6 hh hv⟩
  have oko : CsOk [(x, how, vs)] := ⟨fun c hc => by rw [List.mem_singleton] at hc; subst hc; exact hh, fun c hc => by rw [List.mem_singleton] at hc; subst hc; exact (vals_ok hv).2.2.2.2⟩
  have hl4 : (w2 cs).length ≤ 4 := by rw [h.w2len]; exact h.m4
  obtain ⟨p1, p2, p3⟩ := prt4 (how := how) h hw hx hv
  rw [lw7, seq_eq]
  generalize hR : (fun ε1 S1 => wpSs Pr (Phi Pr 11) (lw 8) ε1 S1 N) = R
  dsimp only [headOf, lw, b_law, tailOf, E4]
  try dsimp only [wpSs, wpS, wpE, wpT, wpA, wpI, wpTs, getV, setV, setVs, wipeV, asgT, iterR, isiR, tyOf, subTy, tyB, optI, bfR, seqOf, lstOf, cmpR, newL, binR, idxR]
  rw [ix5 hx]
  try dsimp only [wpSs, wpS, wpE, wpT, wpA, wpI, wpTs, getV, setV, setVs, wipeV, asgT, iterR, isiR, tyOf, subTy, tyB, optI, bfR, seqOf, lstOf, cmpR, newL, binR, idxR]
  refine parted_ok _ w w cs [(x, how, vs)] _ _ _ hp ho ?_
  rw [← hR]
  clear hR R
  -- what was found
  have fd : ∀ (nw : Str) (T : List (Str × Str)), prt w cs w [(x, how, vs)] = some (nw, T) → ¬ (how = "out" ∧ m = 4) → (how = "out" → ∃ v ∈ vs, gW x T = some v) → wpSs Pr (Phi Pr 11) (lw 8) (E4 n F m cs w how vs (some (.tup [.str nw, TZ ((srt T).map tg)])) none) S N := by
    intro nw T e no hv2
    rw [lw8, seq_eq]
    generalize hR : (fun ε1 S1 => wpSs Pr (Phi Pr 11) (lw 9) ε1 S1 N) = R
    dsimp only [headOf, lw, b_law, tailOf, E4]
    try dsimp only [wpSs, wpS, wpE, wpT, wpA, wpI, wpTs, getV, setV, setVs, wipeV, asgT, iterR, isiR, tyOf, subTy, tyB, optI, bfR, seqOf, lstOf, cmpR, newL, binR, idxR]
    try simp only [eqR_ii, eqR_ss, eqR_bb, ix20, ix21, ix30, ix31, ix32, lenk2, lenk3, pcs0, pcs1, pcs2, pcs3, pcs4, Bool.not_true, Bool.not_false, if_true, if_false, Bool.false_eq_true, reduceCtorEq, ite_true, ite_false]
    have fin : R (E4 n F m cs w how vs (some (.tup [.str nw, TZ ((srt T).map tg)])) none) S := by
      rw [← hR]
      exact checks_ok h.m4 hx hh hp h.ok hl4 ho (prt_some hl4 oko e) hv2 dn q
    cases z1 : (how == ("out" : Str))
    · try simp only [eqR_ii, eqR_ss, eqR_bb, ix20, ix21, ix30, ix31, ix32, lenk2, lenk3, pcs0, pcs1, pcs2, pcs3, pcs4, Bool.not_true, Bool.not_false, if_true, if_false, Bool.false_eq_true, reduceCtorEq, ite_true, ite_false]
      exact fin
    · try simp only [eqR_ii, eqR_ss, eqR_bb, ix20, ix21, ix30, ix31, ix32, lenk2, lenk3, pcs0, pcs1, pcs2, pcs3, pcs4, Bool.not_true, Bool.not_false, if_true, if_false, Bool.false_eq_true, reduceCtorEq, ite_true, ite_false]
      cases z2 : (((m : Nat) : Int) == 4)
      · try simp only [eqR_ii, eqR_ss, eqR_bb, ix20, ix21, ix30, ix31, ix32, lenk2, lenk3, pcs0, pcs1, pcs2, pcs3, pcs4, Bool.not_true, Bool.not_false, if_true, if_false, Bool.false_eq_true, reduceCtorEq, ite_true, ite_false]
        exact fin
      · exact absurd ⟨eq_of_beq z1, by have := eq_of_beq z2; omega⟩ no
  rcases hh with z | z
  · have e := p1 z
    rw [e]
    exact fd _ _ e (fun y => by rw [y.1] at z; exact absurd z (by decide +kernel)) fun y => by rw [y] at z; exact absurd z (by decide +kernel)
  · by_cases hm4 : m = 4
    · rw [p2 z hm4]
      dsimp only [prtD]
      show wpSs Pr (Phi Pr 11) (lw 8) (E4 n F m cs w how vs (some .non) none) S N
      rw [lw8, seq_eq]
      dsimp only [headOf, lw, b_law, tailOf, E4]
      try dsimp only [wpSs, wpS, wpE, wpT, wpA, wpI, wpTs, getV, setV, setVs, wipeV, asgT, iterR, isiR, tyOf, subTy, tyB, optI, bfR, seqOf, lstOf, cmpR, newL, binR, idxR]
      try simp only [eqR_ii, eqR_ss, eqR_bb, ix20, ix21, ix30, ix31, ix32, lenk2, lenk3, pcs0, pcs1, pcs2, pcs3, pcs4, Bool.not_true, Bool.not_false, if_true, if_false, Bool.false_eq_true, reduceCtorEq, ite_true, ite_false]
      have z1 : (how == ("out" : Str)) = true := by rw [z]; simp
      have z2 : (((m : Nat) : Int) == 4) = true := by rw [hm4]; rfl
      rw [z1, z2]
      try simp only [eqR_ii, eqR_ss, eqR_bb, ix20, ix21, ix30, ix31, ix32, lenk2, lenk3, pcs0, pcs1, pcs2, pcs3, pcs4, Bool.not_true, Bool.not_false, if_true, if_false, Bool.false_eq_true, reduceCtorEq, ite_true, ite_false]
      dsimp only [wkD]
      exact q _
    · obtain ⟨v, hv1, e⟩ := p3 z hm4
      rw [e]
      exact fd _ _ e (fun y => hm4 y.2) fun _ => ⟨v, hv1, by rw [gW_pW, if_pos rfl]⟩
theorem draws_ok (h : C4 F m cs) (hw : w = "" ∨ w = "load") (dn : Dn S n) (q : ∀ S', N.rt (.bl true) S') : wpSs Pr (Phi Pr 11) (lw 5) [some (.ref 0), some (.ref n), some (.ilst (F.map D.str)), some (.int m), some (.str w), some (.tup [.str w, .tup (cs.map cd)]), none, none, none, none, none] S N := by
  obtain ⟨x, hx⟩ : ∃ x, F[5]? = some x := ⟨F[5]'(by rw [h.p.length_eq]; decide), List.getElem?_eq_getElem _⟩
  rw [lw5, seq_eq]
  generalize hR : (fun ε1 S1 => wpSs Pr (Phi Pr 11) (lw 6) ε1 S1 N) = R
  dsimp only [headOf, lw, b_law, tailOf]
  try dsimp only [wpSs, wpS, wpE, wpT, wpA, wpI, wpTs, getV, setV, setVs, wipeV, asgT, iterR, isiR, tyOf, subTy, tyB, optI, bfR, seqOf, lstOf, cmpR, newL, binR, idxR]
  refine off_ok _ _ _ (by decide) (by decide) _ _ _ dn fun r S2 r0 r3 ds => ?_
  obtain ⟨d, e, hdd⟩ := pick2 (a := .str "in") (b := .str "out") r0 r3
  try dsimp only [wpSs, wpS, wpE, wpT, wpA, wpI, wpTs, getV, setV, setVs, wipeV, asgT, iterR, isiR, tyOf, subTy, tyB, optI, bfR, seqOf, lstOf, cmpR, newL, binR, idxR]
  rw [e]
  obtain ⟨how, rfl, hh⟩ : ∃ v : Str, d = .str v ∧ (v = "in" ∨ v = "out") := by
    rcases hdd with rfl | rfl
    · exact ⟨_, rfl, .inl rfl⟩
    · exact ⟨_, rfl, .inr rfl⟩
  rw [← hR]
  clear hR R
  show wpSs Pr (Phi Pr 11) (lw 6) _ _ _
  rw [lw6, seq_eq]
  generalize hR : (fun ε1 S1 => wpSs Pr (Phi Pr 11) (lw 7) ε1 S1 N) = R
  dsimp only [headOf, lw, b_law, tailOf]
  try dsimp only [wpSs, wpS, wpE, wpT, wpA, wpI, wpTs, getV, setV, setVs, wipeV, asgT, iterR, isiR, tyOf, subTy, tyB, optI, bfR, seqOf, lstOf, cmpR, newL, binR, idxR]
  refine off_ok _ _ _ (by decide) (by decide) _ _ _ ds.dn fun r1 S3 r10 r13 ds3 => ?_
  obtain ⟨d, e, hdd⟩ := pick3 (a := .tup [.str "x"]) (b := .tup [.str "x", .str "y"]) (c := .tup [.str "q"]) r10 r13
  try dsimp only [wpSs, wpS, wpE, wpT, wpA, wpI, wpTs, getV, setV, setVs, wipeV, asgT, iterR, isiR, tyOf, subTy, tyB, optI, bfR, seqOf, lstOf, cmpR, newL, binR, idxR]
  rw [e]
  obtain ⟨vs, rfl, hv⟩ : ∃ vs : List Str, d = .tup (vs.map D.str) ∧ (vs = xs1 ∨ vs = xs2 ∨ vs = qs1) := by
    rcases hdd with rfl | rfl | rfl
    · exact ⟨xs1, rfl, .inl rfl⟩
    · exact ⟨xs2, rfl, .inr (.inl rfl)⟩
    · exact ⟨qs1, rfl, .inr (.inr rfl)⟩
  rw [← hR]
  exact found_ok h hw hx hh hv ds3.dn q
theorem picker4_ok (hF : F.Perm L6) (hm : m ≤ 4) (hw : w = "" ∨ w = "load") (dn : Dn S n) (q : ∀ S', N.rt (.bl true) S') : wpSs Pr (Phi Pr 11) (lw 4) [some (.ref 0), some (.ref n), some (.ilst (F.map D.str)), some (.int m), some (.str w), none, none, none, none, none, none] S N := by
  rw [lw4, seq_eq]
  generalize hR : (fun ε1 S1 => wpSs Pr (Phi Pr 11) (lw 5) ε1 S1 N) = R
  dsimp only [headOf, lw, b_law, tailOf]
  try dsimp only [wpSs, wpS, wpE, wpT, wpA, wpI, wpTs, getV, setV, setVs, wipeV, asgT, iterR, isiR, tyOf, subTy, tyB, optI, bfR, seqOf, lstOf, cmpR, newL, binR, idxR]
  dsimp only [slcR, lstOf, newL]
  rw [cut_to _ _ (by omega)]
  try dsimp only [wpSs, wpS, wpE, wpT, wpA, wpI, wpTs, getV, setV, setVs, wipeV, asgT, iterR, isiR, tyOf, subTy, tyB, optI, bfR, seqOf, lstOf, cmpR, newL, binR, idxR]
  rw [show ((m : Nat) : Int).toNat = m from rfl, ← List.map_take]
  refine compL_st D.str (fun r acc S' => ∃ cs : List Cnd, acc = cs.map cd ∧ cs.map (·.1) ++ r = F.take m ∧ (∀ c ∈ cs, c.2.1 = "in" ∧ (c.2.2 = xs1 ∨ c.2.2 = xs2)) ∧ Dn S' n) (fun _ _ _ _ => trivial) ?_ ?_ (F.take m) [] S ⟨[], rfl, rfl, (fun c hc => (by cases hc)), dn⟩
  · rintro y r acc S' kk ⟨cs, rfl, e, hc, dn'⟩ hk
    try dsimp only [wpSs, wpS, wpE, wpT, wpA, wpI, wpTs, getV, setV, setVs, wipeV, asgT, iterR, isiR, tyOf, subTy, tyB, optI, bfR, seqOf, lstOf, cmpR, newL, binR, idxR]
    refine off_ok _ _ _ (by decide) (by decide) _ _ _ dn' fun r1 S3 r10 r13 ds3 => ?_
    try dsimp only [wpSs, wpS, wpE, wpT, wpA, wpI, wpTs, getV, setV, setVs, wipeV, asgT, iterR, isiR, tyOf, subTy, tyB, optI, bfR, seqOf, lstOf, cmpR, newL, binR, idxR]
    rw [cut_to _ _ (by omega)]
    obtain ⟨vs, e2, hv⟩ : ∃ vs : List Str, ([.str "x", .str "y"] : List D).take (1 + r1).toNat = vs.map D.str ∧ (vs = xs1 ∨ vs = xs2) := by
      have : r1 = 0 ∨ r1 = 1 := by omega
      rcases this with rfl | rfl
      · exact ⟨xs1, rfl, .inl rfl⟩
      · exact ⟨xs2, rfl, .inr rfl⟩
    rw [e2]
    refine hk (cd (y, "in", vs)) S3 ⟨cs ++ [((y, "in", vs) : Cnd)], by rw [List.map_append]; rfl, by rw [List.map_append, ← e]; simp, fun c hcc => ?_, ds3.dn⟩
    rcases List.mem_append.mp hcc with hcc | hcc
    · exact hc c hcc
    · rw [List.mem_singleton] at hcc; subst hcc; exact ⟨rfl, hv⟩
  · rintro acc S' ⟨cs, rfl, e, hc, dn'⟩
    try dsimp only [wpSs, wpS, wpE, wpT, wpA, wpI, wpTs, getV, setV, setVs, wipeV, asgT, iterR, isiR, tyOf, subTy, tyB, optI, bfR, seqOf, lstOf, cmpR, newL, binR, idxR]
    rw [← hR]
    exact draws_ok ⟨hF, hm, by simpa using e, hc⟩ hw dn' q
end
theorem start_ok {ns : List Int} {S : Sto} {N : En} (hl : ns.length ≤ 63) (hS : S 0 = some (.rol (ns.map D.int))) (q : ∀ S', N.rt (.bl true) S') : wpSs Pr (Phi Pr 11) b_law [some (.ref 0), none, none, none, none, none, none, none, none, none, none] S N := by
  rw [lw0, seq_eq]
  generalize hR : (fun ε1 S1 => wpSs Pr (Phi Pr 11) (lw 1) ε1 S1 N) = R
  dsimp only [headOf, lw, b_law, tailOf]
  try dsimp only [wpSs, wpS, wpE, wpT, wpA, wpI, wpTs, getV, setV, setVs, wipeV, asgT, iterR, isiR, tyOf, subTy, tyB, optI, bfR, seqOf, lstOf, cmpR, newL, binR, idxR]
  refine dice_ok _ ns hl _ _ _ hS fun n S' hn kp dn => ?_
  rw [← hR]
  clear hR R
  try dsimp only [wpSs, wpS, wpE, wpT, wpA, wpI, wpTs, getV, setV, setVs, wipeV, asgT, iterR, isiR, tyOf, subTy, tyB, optI, bfR, seqOf, lstOf, cmpR, newL, binR, idxR]
  show wpSs Pr (Phi Pr 11) (lw 1) _ _ _
  rw [lw1, seq_eq]
  generalize hR : (fun ε1 S1 => wpSs Pr (Phi Pr 11) (lw 2) ε1 S1 N) = R
  dsimp only [headOf, lw, b_law, tailOf]
  try dsimp only [wpSs, wpS, wpE, wpT, wpA, wpI, wpTs, getV, setV, setVs, wipeV, asgT, iterR, isiR, tyOf, subTy, tyB, optI, bfR, seqOf, lstOf, cmpR, newL, binR, idxR]
  refine mixed_ok _ n L6 (by decide) _ _ _ dn fun F S2 hF ds2 => ?_
  rw [← hR]
  clear hR R
  try dsimp only [wpSs, wpS, wpE, wpT, wpA, wpI, wpTs, getV, setV, setVs, wipeV, asgT, iterR, isiR, tyOf, subTy, tyB, optI, bfR, seqOf, lstOf, cmpR, newL, binR, idxR]
  show wpSs Pr (Phi Pr 11) (lw 2) _ _ _
  rw [lw2, seq_eq]
  generalize hR : (fun ε1 S1 => wpSs Pr (Phi Pr 11) (lw 3) ε1 S1 N) = R
  dsimp only [headOf, lw, b_law, tailOf]
  try dsimp only [wpSs, wpS, wpE, wpT, wpA, wpI, wpTs, getV, setV, setVs, wipeV, asgT, iterR, isiR, tyOf, subTy, tyB, optI, bfR, seqOf, lstOf, cmpR, newL, binR, idxR]
  refine off_ok _ _ _ (by decide) (by decide) _ _ _ ds2.dn fun r S3 r0 r5 ds3 => ?_
  obtain ⟨m, rfl⟩ : ∃ m : Nat, r = m := ⟨r.toNat, by omega⟩
  rw [← hR]
  clear hR R
  try dsimp only [wpSs, wpS, wpE, wpT, wpA, wpI, wpTs, getV, setV, setVs, wipeV, asgT, iterR, isiR, tyOf, subTy, tyB, optI, bfR, seqOf, lstOf, cmpR, newL, binR, idxR]
  show wpSs Pr (Phi Pr 11) (lw 3) _ _ _
  rw [lw3, seq_eq]
  generalize hR : (fun ε1 S1 => wpSs Pr (Phi Pr 11) (lw 4) ε1 S1 N) = R
  dsimp only [headOf, lw, b_law, tailOf]
  try dsimp only [wpSs, wpS, wpE, wpT, wpA, wpI, wpTs, getV, setV, setVs, wipeV, asgT, iterR, isiR, tyOf, subTy, tyB, optI, bfR, seqOf, lstOf, cmpR, newL, binR, idxR]
  refine off_ok _ _ _ (by decide) (by decide) _ _ _ ds3.dn fun r1 S4 r10 r13 ds4 => ?_
  obtain ⟨d, e, hdd⟩ := pick2 (a := .str "") (b := .str "load") r10 r13
  try dsimp only [wpSs, wpS, wpE, wpT, wpA, wpI, wpTs, getV, setV, setVs, wipeV, asgT, iterR, isiR, tyOf, subTy, tyB, optI, bfR, seqOf, lstOf, cmpR, newL, binR, idxR]
  rw [e]
  obtain ⟨w, rfl, hw⟩ : ∃ v : Str, d = .str v ∧ (v = "" ∨ v = "load") := by
    rcases hdd with rfl | rfl
    · exact ⟨_, rfl, .inl rfl⟩
    · exact ⟨_, rfl, .inr rfl⟩
  rw [← hR]
  exact picker4_ok hF (by omega) hw ds4.dn q
theorem law_all (ns : List Int) (hl : ns.length ≤ 63) : Phi Pr 12 21 [.ref 0] (fun m => if m = 0 then some (.rol (ns.map D.int)) else none) (fun d _ => d = .bl true) fun _ _ _ => False := by
  refine Phi_fn (ε := [some (.ref 0), none, none, none, none, none, none, none, none, none, none]) rfl rfl rfl ?_
  exact start_ok hl rfl fun S' => (show TH.Fin (fun d _ => d = .bl true) (.bl true) S' from Fin.here rfl)
end L
set_option maxHeartbeats 0
namespace L
open PySem TH
open PySem.Spec PyProof.Rows L2
def G : Sg := ⟨fnN, csN⟩
/-! ### .. and the text -/
def top (i : Nat) : Stmt := PySem.Challenge.pw_tidehouse_k04_whole_names_have_four_tags.main.body.getD i (.Pass ⟨0, 0, 0, 0⟩)
abbrev t_is_run : Stmt := top 10
def d_is_run : He.DefD := ⟨("is_run", none), "is_run", "is_run", defArgs t_is_run, defBody t_is_run, defScope t_is_run, [], []⟩
def N_is_run : List Str := ["thing", "signs", "upto", "sign"]
theorem c_is_run : chkSs G b_is_run ⟨N_is_run, defScope t_is_run, none⟩ (defBody t_is_run) = true := by decide +kernel
theorem s_is_run : FnScope N_is_run ["thing", "signs", "upto"] (defScope t_is_run) := ⟨rfl, rfl, rfl, by decide +kernel, rfl, by decide +kernel, by decide +kernel⟩
abbrev t_is_word : Stmt := top 11
def d_is_word : He.DefD := ⟨("is_word", none), "is_word", "is_word", defArgs t_is_word, defBody t_is_word, defScope t_is_word, [], []⟩
def N_is_word : List Str := ["thing"]
theorem c_is_word : chkSs G b_is_word ⟨N_is_word, defScope t_is_word, none⟩ (defBody t_is_word) = true := by decide +kernel
theorem s_is_word : FnScope N_is_word ["thing"] (defScope t_is_word) := ⟨rfl, rfl, rfl, by decide +kernel, rfl, by decide +kernel, by decide +kernel⟩
abbrev t_is_key : Stmt := top 12
def d_is_key : He.DefD := ⟨("is_key", none), "is_key", "is_key", defArgs t_is_key, defBody t_is_key, defScope t_is_key, [], []⟩
def N_is_key : List Str := ["thing"]
theorem c_is_key : chkSs G b_is_key ⟨N_is_key, defScope t_is_key, none⟩ (defBody t_is_key) = true := by decide +kernel
theorem s_is_key : FnScope N_is_key ["thing"] (defScope t_is_key) := ⟨rfl, rfl, rfl, by decide +kernel, rfl, by decide +kernel, by decide +kernel⟩
abbrev t_is_value : Stmt := top 13
def d_is_value : He.DefD := ⟨("is_value", none), "is_value", "is_value", defArgs t_is_value, defBody t_is_value, defScope t_is_value, [], []⟩
def N_is_value : List Str := ["thing"]
theorem c_is_value : chkSs G b_is_value ⟨N_is_value, defScope t_is_value, none⟩ (defBody t_is_value) = true := by decide +kernel
theorem s_is_value : FnScope N_is_value ["thing"] (defScope t_is_value) := ⟨rfl, rfl, rfl, by decide +kernel, rfl, by decide +kernel, by decide +kernel⟩
abbrev t_are_rising : Stmt := top 14
def d_are_rising : He.DefD := ⟨("are_rising", none), "are_rising", "are_rising", defArgs t_are_rising, defBody t_are_rising, defScope t_are_rising, [], []⟩
def N_are_rising : List Str := ["some", "k"]
theorem c_are_rising : chkSs G b_are_rising ⟨N_are_rising, defScope t_are_rising, none⟩ (defBody t_are_rising) = true := by decide +kernel
theorem s_are_rising : FnScope N_are_rising ["some"] (defScope t_are_rising) := ⟨rfl, rfl, rfl, by decide +kernel, rfl, by decide +kernel, by decide +kernel⟩
abbrev t_are_tags : Stmt := top 15
def d_are_tags : He.DefD := ⟨("are_tags", none), "are_tags", "are_tags", defArgs t_are_tags, defBody t_are_tags, defScope t_are_tags, [], []⟩
def N_are_tags : List Str := ["thing", "pair", "key", "value"]
theorem c_are_tags : chkSs G b_are_tags ⟨N_are_tags, defScope t_are_tags, none⟩ (defBody t_are_tags) = true := by decide +kernel
theorem s_are_tags : FnScope N_are_tags ["thing"] (defScope t_are_tags) := ⟨rfl, rfl, rfl, by decide +kernel, rfl, by decide +kernel, by decide +kernel⟩
abbrev t_is_name : Stmt := top 16
def d_is_name : He.DefD := ⟨("is_name", none), "is_name", "is_name", defArgs t_is_name, defBody t_is_name, defScope t_is_name, [], []⟩
def N_is_name : List Str := ["thing"]
theorem c_is_name : chkSs G b_is_name ⟨N_is_name, defScope t_is_name, none⟩ (defBody t_is_name) = true := by decide +kernel
theorem s_is_name : FnScope N_is_name ["thing"] (defScope t_is_name) := ⟨rfl, rfl, rfl, by decide +kernel, rfl, by decide +kernel, by decide +kernel⟩
abbrev t_need_name : Stmt := top 17
def d_need_name : He.DefD := ⟨("need_name", none), "need_name", "need_name", defArgs t_need_name, defBody t_need_name, defScope t_need_name, [], []⟩
def N_need_name : List Str := ["thing"]
theorem c_need_name : chkSs G b_need_name ⟨N_need_name, defScope t_need_name, none⟩ (defBody t_need_name) = true := by decide +kernel
theorem s_need_name : FnScope N_need_name ["thing"] (defScope t_need_name) := ⟨rfl, rfl, rfl, by decide +kernel, rfl, by decide +kernel, by decide +kernel⟩
abbrev t_is_condition : Stmt := top 18
def d_is_condition : He.DefD := ⟨("is_condition", none), "is_condition", "is_condition", defArgs t_is_condition, defBody t_is_condition, defScope t_is_condition, [], []⟩
def N_is_condition : List Str := ["thing", "value"]
theorem c_is_condition : chkSs G b_is_condition ⟨N_is_condition, defScope t_is_condition, none⟩ (defBody t_is_condition) = true := by decide +kernel
theorem s_is_condition : FnScope N_is_condition ["thing"] (defScope t_is_condition) := ⟨rfl, rfl, rfl, by decide +kernel, rfl, by decide +kernel, by decide +kernel⟩
abbrev t_is_picker : Stmt := top 19
def d_is_picker : He.DefD := ⟨("is_picker", none), "is_picker", "is_picker", defArgs t_is_picker, defBody t_is_picker, defScope t_is_picker, [], []⟩
def N_is_picker : List Str := ["thing", "one"]
theorem c_is_picker : chkSs G b_is_picker ⟨N_is_picker, defScope t_is_picker, none⟩ (defBody t_is_picker) = true := by decide +kernel
theorem s_is_picker : FnScope N_is_picker ["thing"] (defScope t_is_picker) := ⟨rfl, rfl, rfl, by decide +kernel, rfl, by decide +kernel, by decide +kernel⟩
abbrev t_need_picker : Stmt := top 20
def d_need_picker : He.DefD := ⟨("need_picker", none), "need_picker", "need_picker", defArgs t_need_picker, defBody t_need_picker, defScope t_need_picker, [], []⟩
def N_need_picker : List Str := ["thing"]
theorem c_need_picker : chkSs G b_need_picker ⟨N_need_picker, defScope t_need_picker, none⟩ (defBody t_need_picker) = true := by decide +kernel
theorem s_need_picker : FnScope N_need_picker ["thing"] (defScope t_need_picker) := ⟨rfl, rfl, rfl, by decide +kernel, rfl, by decide +kernel, by decide +kernel⟩
abbrev t_pick : Stmt := top 21
def d_pick : He.DefD := ⟨("pick", none), "pick", "pick", defArgs t_pick, defBody t_pick, defScope t_pick, [], []⟩
def N_pick : List Str := ["picker", "name", "tags", "key", "value", "how", "values"]
theorem c_pick : chkSs G b_pick ⟨N_pick, defScope t_pick, none⟩ (defBody t_pick) = true := by decide +kernel
theorem s_pick : FnScope N_pick ["picker", "name"] (defScope t_pick) := ⟨rfl, rfl, rfl, by decide +kernel, rfl, by decide +kernel, by decide +kernel⟩
abbrev t_picks : Stmt := top 22
def d_picks : He.DefD := ⟨("picks", none), "picks", "picks", defArgs t_picks, defBody t_picks, defScope t_picks, [], []⟩
def N_picks : List Str := ["picker", "name"]
theorem c_picks : chkSs G b_picks ⟨N_picks, defScope t_picks, none⟩ (defBody t_picks) = true := by decide +kernel
theorem s_picks : FnScope N_picks ["picker", "name"] (defScope t_picks) := ⟨rfl, rfl, rfl, by decide +kernel, rfl, by decide +kernel, by decide +kernel⟩
abbrev t_wanted : Stmt := top 23
def d_wanted : He.DefD := ⟨("wanted", none), "wanted", "wanted", defArgs t_wanted, defBody t_wanted, defScope t_wanted, [], []⟩
def N_wanted : List Str := ["picker", "found", "key", "how", "values", "value"]
theorem c_wanted : chkSs G b_wanted ⟨N_wanted, defScope t_wanted, none⟩ (defBody t_wanted) = true := by decide +kernel
theorem s_wanted : FnScope N_wanted ["picker"] (defScope t_wanted) := ⟨rfl, rfl, rfl, by decide +kernel, rfl, by decide +kernel, by decide +kernel⟩
abbrev t_barred : Stmt := top 24
def d_barred : He.DefD := ⟨("barred", none), "barred", "barred", defArgs t_barred, defBody t_barred, defScope t_barred, [], []⟩
def N_barred : List Str := ["picker", "key", "value", "one", "how", "values"]
theorem c_barred : chkSs G b_barred ⟨N_barred, defScope t_barred, none⟩ (defBody t_barred) = true := by decide +kernel
theorem s_barred : FnScope N_barred ["picker", "key"] (defScope t_barred) := ⟨rfl, rfl, rfl, by decide +kernel, rfl, by decide +kernel, by decide +kernel⟩
abbrev t_parted : Stmt := top 25
def d_parted : He.DefD := ⟨("parted", none), "parted", "parted", defArgs t_parted, defBody t_parted, defScope t_parted, [], []⟩
def N_parted : List Str := ["picker", "other", "must", "tags", "word", "key", "how", "values", "more"]
theorem c_parted : chkSs G b_parted ⟨N_parted, defScope t_parted, none⟩ (defBody t_parted) = true := by decide +kernel
theorem s_parted : FnScope N_parted ["picker", "other"] (defScope t_parted) := ⟨rfl, rfl, rfl, by decide +kernel, rfl, by decide +kernel, by decide +kernel⟩
abbrev t_breaking : Stmt := top 26
def d_breaking : He.DefD := ⟨("breaking", none), "breaking", "breaking", defArgs t_breaking, defBody t_breaking, defScope t_breaking, [], []⟩
def N_breaking : List Str := ["picker", "must", "tags", "condition", "found", "some", "key", "how", "values", "value"]
theorem c_breaking : chkSs G b_breaking ⟨N_breaking, defScope t_breaking, none⟩ (defBody t_breaking) = true := by decide +kernel
theorem s_breaking : FnScope N_breaking ["picker", "must", "tags", "condition"] (defScope t_breaking) := ⟨rfl, rfl, rfl, by decide +kernel, rfl, by decide +kernel, by decide +kernel⟩
abbrev t_named : Stmt := top 27
def d_named : He.DefD := ⟨("named", none), "named", "named", defArgs t_named, defBody t_named, defScope t_named, [], []⟩
def N_named : List Str := ["word", "tags", "key"]
theorem c_named : chkSs G b_named ⟨N_named, defScope t_named, none⟩ (defBody t_named) = true := by decide +kernel
theorem s_named : FnScope N_named ["word", "tags"] (defScope t_named) := ⟨rfl, rfl, rfl, by decide +kernel, rfl, by decide +kernel, by decide +kernel⟩
abbrev t__law_dice : Stmt := top 29
def d__law_dice : He.DefD := ⟨("_law_dice", none), "_law_dice", "_law_dice", defArgs t__law_dice, defBody t__law_dice, defScope t__law_dice, [], []⟩
def N__law_dice : List Str := ["_law_script", "_law_k", "_law_found", "_law_cell"]
theorem c__law_dice : chkSs G b__law_dice ⟨N__law_dice, defScope t__law_dice, none⟩ (defBody t__law_dice) = true := by decide +kernel
theorem s__law_dice : FnScope N__law_dice ["_law_script", "_law_k"] (defScope t__law_dice) := ⟨rfl, rfl, rfl, by decide +kernel, rfl, by decide +kernel, by decide +kernel⟩
abbrev t__law_off : Stmt := top 30
def d__law_off : He.DefD := ⟨("_law_off", none), "_law_off", "_law_off", defArgs t__law_off, defBody t__law_off, defScope t__law_off, [], []⟩
def N__law_off : List Str := ["_law_d", "_law_upto", "_law_found"]
theorem c__law_off : chkSs G b__law_off ⟨N__law_off, defScope t__law_off, none⟩ (defBody t__law_off) = true := by decide +kernel
theorem s__law_off : FnScope N__law_off ["_law_d", "_law_upto"] (defScope t__law_off) := ⟨rfl, rfl, rfl, by decide +kernel, rfl, by decide +kernel, by decide +kernel⟩
abbrev t__law_mixed : Stmt := top 31
def d__law_mixed : He.DefD := ⟨("_law_mixed", none), "_law_mixed", "_law_mixed", defArgs t__law_mixed, defBody t__law_mixed, defScope t__law_mixed, [], []⟩
def N__law_mixed : List Str := ["_law_d", "_law_row", "_law_left", "_law_found"]
theorem c__law_mixed : chkSs G b__law_mixed ⟨N__law_mixed, defScope t__law_mixed, none⟩ (defBody t__law_mixed) = true := by decide +kernel
theorem s__law_mixed : FnScope N__law_mixed ["_law_d", "_law_row"] (defScope t__law_mixed) := ⟨rfl, rfl, rfl, by decide +kernel, rfl, by decide +kernel, by decide +kernel⟩
abbrev t_law : Stmt := top 32
def d_law : He.DefD := ⟨("law", none), "law", "law", defArgs t_law, defBody t_law, defScope t_law, [], []⟩
def N_law : List Str := ["_law_script", "_law_d", "_law_keys", "_law_many", "_law_word", "_law_picker", "_law_how", "_law_values", "_law_found", "_law_inner", "_law_key"]
theorem c_law : chkSs G b_law ⟨N_law, defScope t_law, none⟩ (defBody t_law) = true := by decide +kernel
theorem s_law : FnScope N_law ["_law_script"] (defScope t_law) := ⟨rfl, rfl, rfl, by decide +kernel, rfl, by decide +kernel, by decide +kernel⟩
def fn : List He.DefD := [d_is_run, d_is_word, d_is_key, d_is_value, d_are_rising, d_are_tags, d_is_name, d_need_name, d_is_condition, d_is_picker, d_need_picker, d_pick, d_picks, d_wanted, d_barred, d_parted, d_breaking, d_named, d__law_dice, d__law_off, d__law_mixed, d_law]
def fa : List He.Fa := [.glo "is_run", .glo "is_word", .glo "is_key", .glo "is_value", .glo "are_rising", .glo "are_tags", .glo "is_name", .glo "need_name", .glo "is_condition", .glo "is_picker", .glo "need_picker", .glo "pick", .glo "picks", .glo "wanted", .glo "barred", .glo "parted", .glo "breaking", .glo "named", .glo "_law_dice", .glo "_law_off", .glo "_law_mixed", .glo "law", .free "isinstance", .free "range", .free "len", .free "sorted", .free "all", .free "list", .free "tuple", .free "dict", .free "abs", .free "int", .free "bool", .free "str", .str "LETTERS" "abcdefghijklmnopqrstuvwxyz", .str "SIGNS" "abcdefghijklmnopqrstuvwxyz0123456789", .int "MOST_WORD" 8, .int "MOST_KEY" 6, .int "MOST_TAGS" 4]
abbrev R : PySem.W.OpenRow := PySem.W.OpenLaw.row PySem.Challenge.rw_tidehouse_k04_whole_names_have_four_tags
abbrev qv : Program := PySem.W.view R.prog [32]
abbrev hk : PySem.W.Hook := He.hookD 4 fa fn
def ob (s : PySem.W.SharedT) : He.AlD := He.obsDG 4 fa fn (HandSHeadRun.getT s)
theorem ob_eq (s : PySem.W.SharedT) : ob s = hk.obs s.abs := He.obsDG_eq (HandSHeadRun.getT_eq s)
def names0 : List PySem.Str := ["TideError", "BadName", "BadPicker", "LETTERS", "SIGNS", "MOST_WORD", "MOST_KEY", "MOST_TAGS", "is_run", "is_word", "is_key", "is_value"]
def names1 : List PySem.Str := ["are_rising", "are_tags", "is_name", "need_name", "is_condition", "is_picker", "need_picker", "pick", "picks", "wanted", "barred", "parted"]
def names2 : List PySem.Str := ["breaking", "named", "_law_dice", "_law_off", "_law_mixed"]
def names : List PySem.Str := names0 ++ names1 ++ names2
theorem run (w : World) : HandSHeadRun.RunEq R qv hk ob 2000 names w := by
  intro os
  kernel_rfl
section
variable {K : PySem.W.Frag} {h : Heap} {mg : Str → Option Value}
def fA (K : PySem.W.Frag) (f : Nat) : Addr := He.fAd K (fnN.getD f "", none)
theorem fns_ok (X : K.In h) (Gm : h.Ns mainGlobals mg) (c : He.SaysD fa fn K) : ∀ (f : Nat) (x : Str), G.fns[f]? = some x → ∃ (fn : FnDef) (nm qual : Str) (params : Arguments) (body : List Stmt) (scope : Scope) (fd : FuncData) (ps N : List Str), Pr.fn f = some fn ∧ mg x = some (.ref (fA K f)) ∧ FunD K nm qual params body scope [] [] (fA K f) fd ∧ FnScope N ps scope ∧ Binds K fd ps [] ∧ ps.length = fn.np ∧ N.length = fn.ns ∧ fn.np ≤ fn.ns ∧ chkSs G fn.body ⟨N, scope, none⟩ body = true
  | 0, x, e => by
    obtain rfl : ("is_run" : Str) = x := Option.some.inj e
    obtain ⟨fd, F⟩ := c.def_ 0 (d := d_is_run) rfl
    exact ⟨_, _, _, _, _, _, fd, _, N_is_run, rfl, He.glo_ok X Gm (c.fact 0 (f := .glo "is_run") rfl), F, s_is_run, F.bindsN fun _ _ _ _ _ _ us hl => (match us, hl with | [_, _, _], _ => rfl), rfl, rfl, by decide, c_is_run⟩
  | 1, x, e => by
    obtain rfl : ("is_word" : Str) = x := Option.some.inj e
    obtain ⟨fd, F⟩ := c.def_ 1 (d := d_is_word) rfl
    exact ⟨_, _, _, _, _, _, fd, _, N_is_word, rfl, He.glo_ok X Gm (c.fact 1 (f := .glo "is_word") rfl), F, s_is_word, F.bindsN fun _ _ _ _ _ _ us hl => (match us, hl with | [_], _ => rfl), rfl, rfl, by decide, c_is_word⟩
  | 2, x, e => by
    obtain rfl : ("is_key" : Str) = x := Option.some.inj e
    obtain ⟨fd, F⟩ := c.def_ 2 (d := d_is_key) rfl
    exact ⟨_, _, _, _, _, _, fd, _, N_is_key, rfl, He.glo_ok X Gm (c.fact 2 (f := .glo "is_key") rfl), F, s_is_key, F.bindsN fun _ _ _ _ _ _ us hl => (match us, hl with | [_], _ => rfl), rfl, rfl, by decide, c_is_key⟩
  | 3, x, e => by
    obtain rfl : ("is_value" : Str) = x := Option.some.inj e
    obtain ⟨fd, F⟩ := c.def_ 3 (d := d_is_value) rfl
    exact ⟨_, _, _, _, _, _, fd, _, N_is_value, rfl, He.glo_ok X Gm (c.fact 3 (f := .glo "is_value") rfl), F, s_is_value, F.bindsN fun _ _ _ _ _ _ us hl => (match us, hl with | [_], _ => rfl), rfl, rfl, by decide, c_is_value⟩
  | 4, x, e => by
    obtain rfl : ("are_rising" : Str) = x := Option.some.inj e
    obtain ⟨fd, F⟩ := c.def_ 4 (d := d_are_rising) rfl
    exact ⟨_, _, _, _, _, _, fd, _, N_are_rising, rfl, He.glo_ok X Gm (c.fact 4 (f := .glo "are_rising") rfl), F, s_are_rising, F.bindsN fun _ _ _ _ _ _ us hl => (match us, hl with | [_], _ => rfl), rfl, rfl, by decide, c_are_rising⟩
  | 5, x, e => by
    obtain rfl : ("are_tags" : Str) = x := Option.some.inj e
    obtain ⟨fd, F⟩ := c.def_ 5 (d := d_are_tags) rfl
    exact ⟨_, _, _, _, _, _, fd, _, N_are_tags, rfl, He.glo_ok X Gm (c.fact 5 (f := .glo "are_tags") rfl), F, s_are_tags, F.bindsN fun _ _ _ _ _ _ us hl => (match us, hl with | [_], _ => rfl), rfl, rfl, by decide, c_are_tags⟩
  | 6, x, e => by
    obtain rfl : ("is_name" : Str) = x := Option.some.inj e
    obtain ⟨fd, F⟩ := c.def_ 6 (d := d_is_name) rfl
    exact ⟨_, _, _, _, _, _, fd, _, N_is_name, rfl, He.glo_ok X Gm (c.fact 6 (f := .glo "is_name") rfl), F, s_is_name, F.bindsN fun _ _ _ _ _ _ us hl => (match us, hl with | [_], _ => rfl), rfl, rfl, by decide, c_is_name⟩
  | 7, x, e => by
    obtain rfl : ("need_name" : Str) = x := Option.some.inj e
    obtain ⟨fd, F⟩ := c.def_ 7 (d := d_need_name) rfl
    exact ⟨_, _, _, _, _, _, fd, _, N_need_name, rfl, He.glo_ok X Gm (c.fact 7 (f := .glo "need_name") rfl), F, s_need_name, F.bindsN fun _ _ _ _ _ _ us hl => (match us, hl with | [_], _ => rfl), rfl, rfl, by decide, c_need_name⟩
  | 8, x, e => by
    obtain rfl : ("is_condition" : Str) = x := Option.some.inj e
    obtain ⟨fd, F⟩ := c.def_ 8 (d := d_is_condition) rfl
    exact ⟨_, _, _, _, _, _, fd, _, N_is_condition, rfl, He.glo_ok X Gm (c.fact 8 (f := .glo "is_condition") rfl), F, s_is_condition, F.bindsN fun _ _ _ _ _ _ us hl => (match us, hl with | [_], _ => rfl), rfl, rfl, by decide, c_is_condition⟩
  | 9, x, e => by
    obtain rfl : ("is_picker" : Str) = x := Option.some.inj e
    obtain ⟨fd, F⟩ := c.def_ 9 (d := d_is_picker) rfl
    exact ⟨_, _, _, _, _, _, fd, _, N_is_picker, rfl, He.glo_ok X Gm (c.fact 9 (f := .glo "is_picker") rfl), F, s_is_picker, F.bindsN fun _ _ _ _ _ _ us hl => (match us, hl with | [_], _ => rfl), rfl, rfl, by decide, c_is_picker⟩
  | 10, x, e => by
    obtain rfl : ("need_picker" : Str) = x := Option.some.inj e
    obtain ⟨fd, F⟩ := c.def_ 10 (d := d_need_picker) rfl
    exact ⟨_, _, _, _, _, _, fd, _, N_need_picker, rfl, He.glo_ok X Gm (c.fact 10 (f := .glo "need_picker") rfl), F, s_need_picker, F.bindsN fun _ _ _ _ _ _ us hl => (match us, hl with | [_], _ => rfl), rfl, rfl, by decide, c_need_picker⟩
  | 11, x, e => by
    obtain rfl : ("pick" : Str) = x := Option.some.inj e
    obtain ⟨fd, F⟩ := c.def_ 11 (d := d_pick) rfl
    exact ⟨_, _, _, _, _, _, fd, _, N_pick, rfl, He.glo_ok X Gm (c.fact 11 (f := .glo "pick") rfl), F, s_pick, F.bindsN fun _ _ _ _ _ _ us hl => (match us, hl with | [_, _], _ => rfl), rfl, rfl, by decide, c_pick⟩
  | 12, x, e => by
    obtain rfl : ("picks" : Str) = x := Option.some.inj e
    obtain ⟨fd, F⟩ := c.def_ 12 (d := d_picks) rfl
    exact ⟨_, _, _, _, _, _, fd, _, N_picks, rfl, He.glo_ok X Gm (c.fact 12 (f := .glo "picks") rfl), F, s_picks, F.bindsN fun _ _ _ _ _ _ us hl => (match us, hl with | [_, _], _ => rfl), rfl, rfl, by decide, c_picks⟩
  | 13, x, e => by
    obtain rfl : ("wanted" : Str) = x := Option.some.inj e
    obtain ⟨fd, F⟩ := c.def_ 13 (d := d_wanted) rfl
    exact ⟨_, _, _, _, _, _, fd, _, N_wanted, rfl, He.glo_ok X Gm (c.fact 13 (f := .glo "wanted") rfl), F, s_wanted, F.bindsN fun _ _ _ _ _ _ us hl => (match us, hl with | [_], _ => rfl), rfl, rfl, by decide, c_wanted⟩
  | 14, x, e => by
    obtain rfl : ("barred" : Str) = x := Option.some.inj e
    obtain ⟨fd, F⟩ := c.def_ 14 (d := d_barred) rfl
    exact ⟨_, _, _, _, _, _, fd, _, N_barred, rfl, He.glo_ok X Gm (c.fact 14 (f := .glo "barred") rfl), F, s_barred, F.bindsN fun _ _ _ _ _ _ us hl => (match us, hl with | [_, _], _ => rfl), rfl, rfl, by decide, c_barred⟩
  | 15, x, e => by
    obtain rfl : ("parted" : Str) = x := Option.some.inj e
    obtain ⟨fd, F⟩ := c.def_ 15 (d := d_parted) rfl
    exact ⟨_, _, _, _, _, _, fd, _, N_parted, rfl, He.glo_ok X Gm (c.fact 15 (f := .glo "parted") rfl), F, s_parted, F.bindsN fun _ _ _ _ _ _ us hl => (match us, hl with | [_, _], _ => rfl), rfl, rfl, by decide, c_parted⟩
  | 16, x, e => by
    obtain rfl : ("breaking" : Str) = x := Option.some.inj e
    obtain ⟨fd, F⟩ := c.def_ 16 (d := d_breaking) rfl
    exact ⟨_, _, _, _, _, _, fd, _, N_breaking, rfl, He.glo_ok X Gm (c.fact 16 (f := .glo "breaking") rfl), F, s_breaking, F.bindsN fun _ _ _ _ _ _ us hl => (match us, hl with | [_, _, _, _], _ => rfl), rfl, rfl, by decide, c_breaking⟩
  | 17, x, e => by
    obtain rfl : ("named" : Str) = x := Option.some.inj e
    obtain ⟨fd, F⟩ := c.def_ 17 (d := d_named) rfl
    exact ⟨_, _, _, _, _, _, fd, _, N_named, rfl, He.glo_ok X Gm (c.fact 17 (f := .glo "named") rfl), F, s_named, F.bindsN fun _ _ _ _ _ _ us hl => (match us, hl with | [_, _], _ => rfl), rfl, rfl, by decide, c_named⟩
  | 18, x, e => by
    obtain rfl : ("_law_dice" : Str) = x := Option.some.inj e
    obtain ⟨fd, F⟩ := c.def_ 18 (d := d__law_dice) rfl
    exact ⟨_, _, _, _, _, _, fd, _, N__law_dice, rfl, He.glo_ok X Gm (c.fact 18 (f := .glo "_law_dice") rfl), F, s__law_dice, F.bindsN fun _ _ _ _ _ _ us hl => (match us, hl with | [_, _], _ => rfl), rfl, rfl, by decide, c__law_dice⟩
  | 19, x, e => by
    obtain rfl : ("_law_off" : Str) = x := Option.some.inj e
    obtain ⟨fd, F⟩ := c.def_ 19 (d := d__law_off) rfl
    exact ⟨_, _, _, _, _, _, fd, _, N__law_off, rfl, He.glo_ok X Gm (c.fact 19 (f := .glo "_law_off") rfl), F, s__law_off, F.bindsN fun _ _ _ _ _ _ us hl => (match us, hl with | [_, _], _ => rfl), rfl, rfl, by decide, c__law_off⟩
  | 20, x, e => by
    obtain rfl : ("_law_mixed" : Str) = x := Option.some.inj e
    obtain ⟨fd, F⟩ := c.def_ 20 (d := d__law_mixed) rfl
    exact ⟨_, _, _, _, _, _, fd, _, N__law_mixed, rfl, He.glo_ok X Gm (c.fact 20 (f := .glo "_law_mixed") rfl), F, s__law_mixed, F.bindsN fun _ _ _ _ _ _ us hl => (match us, hl with | [_, _], _ => rfl), rfl, rfl, by decide, c__law_mixed⟩
  | 21, x, e => by
    obtain rfl : ("law" : Str) = x := Option.some.inj e
    obtain ⟨fd, F⟩ := c.def_ 21 (d := d_law) rfl
    exact ⟨_, _, _, _, _, _, fd, _, N_law, rfl, He.glo_ok X Gm (c.fact 21 (f := .glo "law") rfl), F, s_law, F.bindsN fun _ _ _ _ _ _ us hl => (match us, hl with | [_], _ => rfl), rfl, rfl, by decide, c_law⟩
  | _ + 22, x, e => (nomatch e)
theorem blt_ok (X : K.In h) (Gm : h.Ns mainGlobals mg) (c : He.SaysD fa fn K) : ∀ x ∈ bltL, mg x = none := by
  intro x hx
  unfold bltL at hx
  simp only [List.mem_cons, List.not_mem_nil, or_false] at hx
  rcases hx with rfl | rfl | rfl | rfl | rfl | rfl | rfl | rfl | rfl | rfl | rfl | rfl
  · exact He.free_ok X Gm (c.fact 22 (f := .free "isinstance") rfl)
  · exact He.free_ok X Gm (c.fact 23 (f := .free "range") rfl)
  · exact He.free_ok X Gm (c.fact 24 (f := .free "len") rfl)
  · exact He.free_ok X Gm (c.fact 25 (f := .free "sorted") rfl)
  · exact He.free_ok X Gm (c.fact 26 (f := .free "all") rfl)
  · exact He.free_ok X Gm (c.fact 27 (f := .free "list") rfl)
  · exact He.free_ok X Gm (c.fact 28 (f := .free "tuple") rfl)
  · exact He.free_ok X Gm (c.fact 29 (f := .free "dict") rfl)
  · exact He.free_ok X Gm (c.fact 30 (f := .free "abs") rfl)
  · exact He.free_ok X Gm (c.fact 31 (f := .free "int") rfl)
  · exact He.free_ok X Gm (c.fact 32 (f := .free "bool") rfl)
  · exact He.free_ok X Gm (c.fact 33 (f := .free "str") rfl)
theorem css_ok (X : K.In h) (Gm : h.Ns mainGlobals mg) (c : He.SaysD fa fn K) : ∀ (g : Nat) (x : Str) (d : D), G.css[g]? = some x → Pr.cs g = some d → ∃ v u, mg x = some u ∧ RelV v u ∧ ∀ n ρ S H, Rp K n ρ S H d v
  | 0, x, d, e, e2 => by
    obtain rfl : ("LETTERS" : Str) = x := Option.some.inj e
    obtain rfl : D.str "abcdefghijklmnopqrstuvwxyz" = d := Option.some.inj e2
    obtain ⟨t, m⟩ := He.str_ok X Gm (c.fact 34 (f := .str "LETTERS" "abcdefghijklmnopqrstuvwxyz") rfl)
    exact ⟨.str "abcdefghijklmnopqrstuvwxyz", _, m, ⟨t, rfl⟩, fun _ _ _ _ => .str (by decide +kernel)⟩
  | 1, x, d, e, e2 => by
    obtain rfl : ("SIGNS" : Str) = x := Option.some.inj e
    obtain rfl : D.str "abcdefghijklmnopqrstuvwxyz0123456789" = d := Option.some.inj e2
    obtain ⟨t, m⟩ := He.str_ok X Gm (c.fact 35 (f := .str "SIGNS" "abcdefghijklmnopqrstuvwxyz0123456789") rfl)
    exact ⟨.str "abcdefghijklmnopqrstuvwxyz0123456789", _, m, ⟨t, rfl⟩, fun _ _ _ _ => .str (by decide +kernel)⟩
  | 2, x, d, e, e2 => by
    obtain rfl : ("MOST_WORD" : Str) = x := Option.some.inj e
    obtain rfl : D.int 8 = d := Option.some.inj e2
    obtain ⟨t, m⟩ := He.int_ok X Gm (c.fact 36 (f := .int "MOST_WORD" 8) rfl)
    exact ⟨.int 8, _, m, ⟨t, rfl⟩, fun _ _ _ _ => .int _⟩
  | 3, x, d, e, e2 => by
    obtain rfl : ("MOST_KEY" : Str) = x := Option.some.inj e
    obtain rfl : D.int 6 = d := Option.some.inj e2
    obtain ⟨t, m⟩ := He.int_ok X Gm (c.fact 37 (f := .int "MOST_KEY" 6) rfl)
    exact ⟨.int 6, _, m, ⟨t, rfl⟩, fun _ _ _ _ => .int _⟩
  | 4, x, d, e, e2 => by
    obtain rfl : ("MOST_TAGS" : Str) = x := Option.some.inj e
    obtain rfl : D.int 4 = d := Option.some.inj e2
    obtain ⟨t, m⟩ := He.int_ok X Gm (c.fact 38 (f := .int "MOST_TAGS" 4) rfl)
    exact ⟨.int 4, _, m, ⟨t, rfl⟩, fun _ _ _ _ => .int _⟩
  | _ + 5, x, d, e, e2 => (nomatch e)
theorem wok (X : K.In h) (Gm : h.Ns mainGlobals mg) (c : He.SaysD fa fn K) : Wok G Pr (fA K) K mg := ⟨blt_ok X Gm c, fns_ok X Gm c, css_ok X Gm c⟩
end
end L
open PySem PySem.W PySem.Calls PyProof.Rows
theorem L.holds_of (k : Nat) (hr : L2.Room k callerA) (hphi : ∀ ns : List Int, ns.length ≤ 63 → TH.Phi L.Pr k 21 [.ref 0] (fun m => if m = 0 then some (.rol (ns.map TH.D.int)) else none) (fun d _ => d = .bl true) fun _ _ _ => False) : PySem.Challenge.rw_tidehouse_k04_whole_names_have_four_tags.Holds := by
  w_on; o_law
  refine HandSHeadRun.head_any (r := OpenLaw.row PySem.Challenge.rw_tidehouse_k04_whole_names_have_four_tags) (q := L.qv) (H := L.hk) (ob := L.ob) (M := 2000) (loose := L.names) (d := HandSHeadRun.topDef (OpenLaw.row PySem.Challenge.rw_tidehouse_k04_whole_names_have_four_tags).prog 32) (kwd := []) L.ob_eq
    (by kernel_rfl) (fun s => by kernel_rfl) L.run (by kernel_rfl) (by kernel_rfl) (by kernel_rfl) (by rfl) (by first | assumption | decide +kernel) (by decide +kernel) ⟨rfl, rfl, rfl, rfl, rfl, by decide +kernel⟩ ?hw ?hc
  case hw => w_witness2
  case hc =>
    refine L2.walk_ofE (l := PySem.Challenge.rw_tidehouse_k04_whole_names_have_four_tags) (n := 63) (k := k) (x := "_law_script") (CX := TH.CXw (PySem.Challenge.rw_tidehouse_k04_whole_names_have_four_tags).prog) rfl (by decide) (by kernel_rfl) hr ?F (fun _ _ _ _ z => TH.CXw.no z)
    intro w mg fa h Y Gm hmg0
    obtain ⟨K, KX, c⟩ := Y
    have hmg : mg ("law" : PySem.Str) = some (.ref fa) := by
      have e : (HandSHeadRun.topDef (OpenLaw.row PySem.Challenge.rw_tidehouse_k04_whole_names_have_four_tags).prog 32).name = ("law" : PySem.Str) := by kernel_rfl
      rw [← e]
      exact hmg0
    have W := L.wok KX Gm c
    obtain ⟨fd, F⟩ := c.def_ 21 (d := L.d_law) rfl
    have e := hmg.symm.trans (He.glo_ok KX Gm (c.fact 21 (f := .glo "law") rfl))
    cases e
    have b := L2.FunD.bindsA (ps := ["_law_script"]) F fun _ _ _ _ _ _ us hl => (match us, hl with | [_], _ => rfl)
    exact ⟨K, fd, TH.spF (fun _ => .none) K (TH.Phi L.Pr k) 21 1, KX, fun s u => b s [u] rfl, fun H a ns hl ho hs => TH.law_ok hphi H a ns hl ho hs, fun base _ _ => TH.FnOk.cxw (TH.fn_all W k 21 _ "law" _ _ _ _ fd ["_law_script"] L.N_law rfl F L.s_law rfl rfl (by decide) L.c_law)⟩
theorem PySem.Challenge.cw_tidehouse_k04_whole_names_have_four_tags_holds : PySem.Challenge.rw_tidehouse_k04_whole_names_have_four_tags.Holds :=
  L.holds_of 12 ⟨rfl, by decide, by decide⟩ L.law_all
