import PyProof.Rows.All
import Wide.All
import OpenK.AllK
import Wide.FinOn
import HandS.List
import HandS.EndBits
import HandS.ForMost
import HandS.Exc
import HandS.WordsExc
import HandS.IsInst
import HandS.CallLocal
import HandS.CallSlots
import HandS.TupAny
import HandS.TupMul
import HandS.Style
import HandS.Deep
import HandS.Zip
import HandS.Wide
import HandS.Conv
import HandS.TryMany
import HandS.Defaults
import HandS.HeadEnd
import HandS.Head0
import HandS.Head1
import HandS.Head2
import HandS.HeadHook1
import HandS.HeadHook2
import PySem.Challenge.RW_momentroads_k82_whole_papers_of_recursio
set_option Elab.async false
set_option linter.all false
namespace PC
open PySem

/-- plain data: inline tuples and lists (never written), `ref n` the store's cell n (a list that is written), `fn i` the def i -/
inductive D where
  | non | bl (b : Bool) | int (i : Int) | str (s : Str) | tup (xs : List D) | lst (xs : List D) | ref (n : Nat) | fn (i : Nat)
  /-- the script: a list that is read alone -/
  | lok (xs : List D)

inductive Cell where
  | lst (xs : List D)
abbrev Store := List Cell
/-- an exception of a class of the text: which one, its field -/
structure Exc where
  cls : Nat
  val : D
inductive Res (α : Type) where
  | ok (a : α) (st : Store) | exc (e : Exc) (st : Store) | stuck
def M (α : Type) := Store → Res α
namespace M
def pure {α : Type} (a : α) : M α := fun st => .ok a st
def bind {α β : Type} (m : M α) (f : α → M β) : M β := fun st => match m st with
  | .ok a st' => f a st'
  | .exc e st' => .exc e st'
  | .stuck => .stuck
end M
instance : Monad M where
  pure := M.pure
  bind := M.bind
def stuck {α : Type} : M α := fun _ => .stuck
def guardM (c : Bool) : M Unit := fun st => if c = true then .ok () st else .stuck
def ofOpt {α : Type} (o : Option α) : M α := fun st => match o with
  | some a => .ok a st
  | none => .stuck
/-- an exception within is not followed -/
def noExc {α : Type} (m : M α) : M α := fun st => match m st with
  | .ok a st' => .ok a st'
  | _ => .stuck

mutual
def eqv : D → D → Bool
  | .non, .non => true
  | .bl a, .bl b => a == b
  | .bl a, .int j => (if a then 1 else 0) == j
  | .int i, .bl b => i == (if b then 1 else 0)
  | .int i, .int j => i == j
  | .str x, .str y => x == y
  | .lst xs, .lst ys => eqvs xs ys
  | .tup xs, .tup ys => eqvs xs ys
  | _, _ => false
def eqvs : List D → List D → Bool
  | [], [] => true
  | x :: xs, y :: ys => eqv x y && eqvs xs ys
  | _, _ => false
end
mutual
/-- data that == is told of: no cells, no defs, texts of code points; of a depth -/
def okD : Nat → D → Bool
  | _, .non => true
  | _, .bl _ => true
  | _, .int _ => true
  | _, .str x => PyData.strOk x
  | 0, .tup _ => false
  | n + 1, .tup xs => okDs n xs
  | 0, .lst _ => false
  | n + 1, .lst xs => okDs n xs
  | _, .ref _ => false
  | _, .fn _ => false
  | _, .lok _ => false
def okDs : Nat → List D → Bool
  | _, [] => true
  | n, x :: xs => okD n x && okDs n xs
end
mutual
def D.same : D → D → Bool
  | .non, .non => true
  | .bl a, .bl b => decide (a = b)
  | .int a, .int b => decide (a = b)
  | .str a, .str b => decide (a = b)
  | .tup xs, .tup ys => sames xs ys
  | .lst xs, .lst ys => sames xs ys
  | .ref a, .ref b => decide (a = b)
  | .fn a, .fn b => decide (a = b)
  | .lok xs, .lok ys => sames xs ys
  | _, _ => false
def sames : List D → List D → Bool
  | [], [] => true
  | x :: xs, y :: ys => D.same x y && sames xs ys
  | _, _ => false
end
mutual
theorem D.eq_of_same : ∀ (a b : D), D.same a b = true → a = b
  | .non, .non, _ => rfl
  | .bl a, .bl b, h => by have := of_decide_eq_true h; rw [this]
  | .int a, .int b, h => by have := of_decide_eq_true h; rw [this]
  | .str a, .str b, h => by have := of_decide_eq_true h; rw [this]
  | .ref a, .ref b, h => by have := of_decide_eq_true h; rw [this]
  | .fn a, .fn b, h => by have := of_decide_eq_true h; rw [this]
  | .tup xs, .tup ys, h => by rw [eq_of_sames xs ys h]
  | .lst xs, .lst ys, h => by rw [eq_of_sames xs ys h]
  | .lok xs, .lok ys, h => by rw [eq_of_sames xs ys h]
  | .lok _, .non, h | .lok _, .bl _, h | .lok _, .int _, h | .lok _, .str _, h | .lok _, .tup _, h | .lok _, .lst _, h | .lok _, .ref _, h | .lok _, .fn _, h => nomatch h
  | .non, .lok _, h | .bl _, .lok _, h | .int _, .lok _, h | .str _, .lok _, h | .tup _, .lok _, h | .lst _, .lok _, h | .ref _, .lok _, h | .fn _, .lok _, h => nomatch h
  | .non, .bl _, h | .non, .int _, h | .non, .str _, h | .non, .tup _, h | .non, .lst _, h | .non, .ref _, h | .non, .fn _, h => nomatch h
  | .bl _, .non, h | .bl _, .int _, h | .bl _, .str _, h | .bl _, .tup _, h | .bl _, .lst _, h | .bl _, .ref _, h | .bl _, .fn _, h => nomatch h
  | .int _, .non, h | .int _, .bl _, h | .int _, .str _, h | .int _, .tup _, h | .int _, .lst _, h | .int _, .ref _, h | .int _, .fn _, h => nomatch h
  | .str _, .non, h | .str _, .bl _, h | .str _, .int _, h | .str _, .tup _, h | .str _, .lst _, h | .str _, .ref _, h | .str _, .fn _, h => nomatch h
  | .tup _, .non, h | .tup _, .bl _, h | .tup _, .int _, h | .tup _, .str _, h | .tup _, .lst _, h | .tup _, .ref _, h | .tup _, .fn _, h => nomatch h
  | .lst _, .non, h | .lst _, .bl _, h | .lst _, .int _, h | .lst _, .str _, h | .lst _, .tup _, h | .lst _, .ref _, h | .lst _, .fn _, h => nomatch h
  | .ref _, .non, h | .ref _, .bl _, h | .ref _, .int _, h | .ref _, .str _, h | .ref _, .tup _, h | .ref _, .lst _, h | .ref _, .fn _, h => nomatch h
  | .fn _, .non, h | .fn _, .bl _, h | .fn _, .int _, h | .fn _, .str _, h | .fn _, .tup _, h | .fn _, .lst _, h | .fn _, .ref _, h => nomatch h
theorem eq_of_sames : ∀ (a b : List D), sames a b = true → a = b
  | [], [], _ => rfl
  | x :: xs, y :: ys, h => by
    have h' : (D.same x y && sames xs ys) = true := h
    rw [Bool.and_eq_true] at h'
    rw [D.eq_of_same x y h'.1, eq_of_sames xs ys h'.2]
  | [], _ :: _, h => nomatch h
  | _ :: _, [], h => nomatch h
end
mutual
theorem D.same_refl : ∀ a : D, D.same a a = true
  | .non => rfl
  | .bl _ => decide_eq_true rfl
  | .int _ => decide_eq_true rfl
  | .str _ => decide_eq_true rfl
  | .ref _ => decide_eq_true rfl
  | .fn _ => decide_eq_true rfl
  | .tup xs => sames_refl xs
  | .lst xs => sames_refl xs
  | .lok xs => sames_refl xs
theorem sames_refl : ∀ a : List D, sames a a = true
  | [] => rfl
  | x :: xs => by
    show (D.same x x && sames xs xs) = true
    rw [D.same_refl x, sames_refl xs]; rfl
end
instance : DecidableEq D := fun a b => if h : D.same a b = true then .isTrue (D.eq_of_same a b h) else .isFalse fun e => h (e ▸ D.same_refl a)
def Cell.same : Cell → Cell → Bool
  | .lst xs, .lst ys => sames xs ys
theorem Cell.eq_of_same : ∀ {a b : Cell}, Cell.same a b = true → a = b
  | .lst xs, .lst ys, h => by rw [eq_of_sames xs ys h]
theorem Cell.same_refl : ∀ a : Cell, Cell.same a a = true
  | .lst xs => sames_refl xs

/-- the contents of a list: inline, or a cell's -/
def lstOf (st : Store) : D → Option (List D)
  | .lst xs => some xs
  | .ref n => match st[n]? with
    | some (.lst xs) => some xs
    | none => none
  | _ => none
/-- a list's or a tuple's items -/
def seqOf (st : Store) : D → Option (List D)
  | .tup xs => some xs
  | d => lstOf st d
def cut {α : Type} (xs : List α) (lo hi : Option Int) : List α := (xs.drop (HT.sIx xs.length 0 lo)).take (HT.sIx xs.length xs.length hi - HT.sIx xs.length 0 lo)
def small (i : Int) : Bool := decide (-(2 ^ 62) ≤ i) && decide (i < 2 ^ 62)
def line : Nat := 16777216
def fits (n : Nat) : Bool := decide (n ≤ 16777216)
def mulOk (a b : Int) : Bool := !((decide (Builtin.Int.intBits a > shortFactorBits) && decide (Builtin.Int.intBits b > shortFactorBits) && Builtin.Int.intTooBig (Builtin.Int.intBits a + Builtin.Int.intBits b)))
def divOk (b : Int) : Bool := decide (b ≠ 0) && decide (b.natAbs.log2 < 9000)
def allInts : List D → Option (List Int)
  | [] => some []
  | .int i :: r => (allInts r).map (i :: ·)
  | _ :: _ => none
def allBools : List D → Option (List Bool)
  | [] => some []
  | .bl i :: r => (allBools r).map (i :: ·)
  | _ :: _ => none
/-- the built-in types that isinstance is asked of -/
inductive Ty where
  | int | bool | str | tuple | list
  deriving DecidableEq
def tyOf (st : Store) : D → Option (List Ty)
  | .non => some []
  | .bl _ => some [.bool, .int]
  | .int _ => some [.int]
  | .str _ => some [.str]
  | .tup _ => some [.tuple]
  | .lst _ => some [.list]
  | .ref n => match st[n]? with
    | some (.lst _) => some [.list]
    | none => none
  | .fn _ => none
  | .lok _ => none

inductive Bi where
  | add (c : Bool) | sub | mul (c : Bool) | fdiv | mod | neg
  | eq | ne | lt | le | gt | ge | isN | isNN | isB (b : Bool) | isNB (b : Bool) | inn | nin
  | idx | rev (c : Bool)
  | len | abs | int | str | max | min | sum | tuple | list (c : Bool) | all | any
  | append | pop | popAt
  | isinst (ts : List Ty)
  deriving DecidableEq
def ret (d : D) : M D := fun st => .ok d st
def newCell (xs : List D) : M D := fun st => .ok (.ref st.length) (st ++ [.lst xs])
/-- a new list: a cell, or inline -/
def mkL (c : Bool) (xs : List D) : M D := if c then newCell xs else fun st => .ok (.lst xs) st
def addV (c : Bool) (a b : D) : M D := fun st => match a, b with
  | .int i, .int j => .ok (.int (i + j)) st
  | .tup xs, .tup ys => if fits (xs.length + ys.length) then .ok (.tup (xs ++ ys)) st else .stuck
  | .str x, .str y => if fits (x.length + y.length) then .ok (.str (x ++ y)) st else .stuck
  | a, b => match lstOf st a, lstOf st b with
    | some xs, some ys => if fits (xs.length + ys.length) then mkL c (xs ++ ys) st else .stuck
    | _, _ => .stuck
def mulV (c : Bool) (a b : D) : M D := fun st => match a, b with
  | .int i, .int j => if mulOk i j then .ok (.int (i * j)) st else .stuck
  | .tup xs, .int k => if decide (k ≤ 1000) && small k && decide (xs.length = 1) then .ok (.tup (List.replicate k.toNat xs).flatten) st else .stuck
  | a, .int k => match lstOf st a with
    | some xs => if small k && fits (xs.length * k.toNat) then mkL c (List.replicate k.toNat xs).flatten st else .stuck
    | none => .stuck
  | _, _ => .stuck
def intOp (f : Int → Int → D) (ok : Int → Int → Bool) (a b : D) : M D := fun st => match a, b with
  | .int i, .int j => if ok i j then .ok (f i j) st else .stuck
  | _, _ => .stuck
def eqV (a b : D) : M D := fun st => if okD 60 a && okD 60 b then .ok (.bl (eqv a b)) st else .stuck
def neV (a b : D) : M D := fun st => if okD 60 a && okD 60 b then .ok (.bl (!eqv a b)) st else .stuck
def inV (neg : Bool) (a b : D) : M D := fun st => match seqOf st b with
  | some xs => if okD 60 a && okDs 60 xs then .ok (.bl (neg ^^ xs.any fun z => eqv z a)) st else .stuck
  | none => .stuck
def idxV (a i : D) : M D := fun st => match i with
  | .int k => match seqOf st a with
    | some xs => match L2.atI xs k with
      | some x => .ok x st
      | none => .stuck
    | none => .stuck
  | _ => .stuck
def sliceV (c : Bool) (a : D) (lo hi : Option Int) : M D := fun st => match a with
  | .tup xs => .ok (.tup (cut xs lo hi)) st
  | .lok xs => mkL c (cut xs lo hi) st
  | a => match lstOf st a with
    | some xs => mkL c (cut xs lo hi) st
    | none => .stuck
def revV (c : Bool) (a : D) : M D := fun st => match a with
  | .tup xs => .ok (.tup xs.reverse) st
  | a => match lstOf st a with
    | some xs => mkL c xs.reverse st
    | none => .stuck
def lenV (a : D) : M D := fun st => match a with
  | .str x => if fits x.length then .ok (.int x.length) st else .stuck
  | a => match seqOf st a with
    | some xs => .ok (.int xs.length) st
    | none => .stuck
def absI (i : Int) : Int := if i < 0 then -i else i
def intV : D → M D
  | .int i => ret (.int i)
  | .bl b => ret (.int (if b then 1 else 0))
  | _ => stuck
def strV : D → M D
  | .int i => fun st => if decide (i.natAbs.log2 < 1920) then .ok (.str (toString i)) st else .stuck
  | _ => stuck
def max2 (i j : Int) : Int := if j > i then j else i
def min2 (i j : Int) : Int := if j < i then j else i
def sumV (a : D) : M D := fun st => match (lstOf st a).bind allInts with
  | some ns => .ok (.int ns.sum) st
  | none => .stuck
def allV (a : D) : M D := fun st => match (lstOf st a).bind allBools with
  | some bs => .ok (.bl (bs.all id)) st
  | none => .stuck
def anyV (a : D) : M D := fun st => match (lstOf st a).bind allBools with
  | some bs => .ok (.bl (bs.any id)) st
  | none => .stuck
def tupleV (a : D) : M D := fun st => match seqOf st a with
  | some xs => .ok (.tup xs) st
  | none => .stuck
def listV (c : Bool) (a : D) : M D := fun st => match seqOf st a with
  | some xs => mkL c xs st
  | none => .stuck
def appendV (a x : D) : M D := fun st => match a with
  | .ref n => match st[n]? with
    | some (.lst xs) => if decide (xs.length < 16777216) then .ok .non (st.set n (.lst (xs ++ [x]))) else .stuck
    | none => .stuck
  | _ => .stuck
def popV (a : D) : M D := fun st => match a with
  | .ref n => match st[n]? with
    | some (.lst xs) => match xs[xs.length - 1]? with
      | some y => .ok y (st.set n (.lst xs.dropLast))
      | none => .stuck
    | none => .stuck
  | _ => .stuck
def popAtV (a i : D) : M D := fun st => match a, i with
  | .ref n, .int k => match st[n]? with
    | some (.lst xs) => if 0 ≤ k ∧ k < 2 ^ 63 then match xs[k.toNat]? with
      | some y => .ok y (st.set n (.lst (xs.eraseIdx k.toNat)))
      | none => .stuck
      else .stuck
    | none => .stuck
  | _, _ => .stuck
def isinstV (ts : List Ty) (a : D) : M D := fun st => match tyOf st a with
  | some us => .ok (.bl (us.any fun u => ts.contains u)) st
  | none => .stuck
def isNV (neg : Bool) (a : D) : M D := ret (.bl (neg ^^ decide (a = .non)))
def isBV (neg b : Bool) (a : D) : M D := match a with
  | .bl c => ret (.bl (neg ^^ decide (c = b)))
  | _ => stuck
def biV : Bi → List D → M D
  | .add c, [a, b] => addV c a b
  | .sub, [a, b] => intOp (fun i j => .int (i - j)) (fun _ _ => true) a b
  | .mul c, [a, b] => mulV c a b
  | .fdiv, [a, b] => intOp (fun i j => .int (i.fdiv j)) (fun _ j => divOk j) a b
  | .mod, [a, b] => intOp (fun i j => .int (i.fmod j)) (fun _ j => decide (j ≠ 0)) a b
  | .neg, [.int i] => ret (.int (-i))
  | .eq, [a, b] => eqV a b
  | .ne, [a, b] => neV a b
  | .lt, [a, b] => intOp (fun i j => .bl (decide (i < j))) (fun _ _ => true) a b
  | .le, [a, b] => intOp (fun i j => .bl (decide (i ≤ j))) (fun _ _ => true) a b
  | .gt, [a, b] => intOp (fun i j => .bl (decide (j < i))) (fun _ _ => true) a b
  | .ge, [a, b] => intOp (fun i j => .bl (decide (j ≤ i))) (fun _ _ => true) a b
  | .isN, [a] => isNV false a
  | .isNN, [a] => isNV true a
  | .isB b, [a] => isBV false b a
  | .isNB b, [a] => isBV true b a
  | .inn, [a, b] => inV false a b
  | .nin, [a, b] => inV true a b
  | .idx, [a, i] => idxV a i
  | .rev c, [a] => revV c a
  | .len, [a] => lenV a
  | .abs, [.int i] => ret (.int (absI i))
  | .int, [a] => intV a
  | .str, [a] => strV a
  | .max, [.int i, .int j] => ret (.int (max2 i j))
  | .min, [.int i, .int j] => ret (.int (min2 i j))
  | .sum, [a] => sumV a
  | .tuple, [a] => tupleV a
  | .list c, [a] => listV c a
  | .all, [a] => allV a
  | .any, [a] => anyV a
  | .append, [a, x] => appendV a x
  | .pop, [a] => popV a
  | .popAt, [a, i] => popAtV a i
  | .isinst ts, [a] => isinstV ts a
  | _, _ => stuck

/-- targets: a slot, an item, a tuple of targets (cons .. nil) -/
inductive E where
  | var (i : Nat)
  | cst (d : D)
  | glo (d : D)
  | fnv (i : Nat)
  | nil | cons (a b : E)
  | tup (es : E) | lst (c : Bool) (es : E)
  | bi (b : Bi) (es : E)
  /-- a[lo:hi] -/
  | sl (c l h : Bool) (a lo hi : E)
  /-- a list's method -/
  | mth (b : Bi) (o es : E)
  | and_ (a b : E) | or_ (a b : E) | not_ (a : E)
  | ite (c a b : E)
  | chain (o p : Bi) (a b c : E)
  | call (f : Nat) (es : E)
  | callv (f es : E)
  | comp (cell : Bool) (elt : E) (tg : List Nat) (one : Bool) (it : E) (cond : E)
  | comp2 (elt : E) (i j : Nat) (it1 it2 : E) (cond : E)
  | lsI (c : Bool) (it : E) | tpI (it : E)
  /- what is walked -/
  | sq (e : E) | rg1 (a : E) | rg2 (a b : E) | rg3 (a b c : E) | zip (a b : E) | enum (a : E)
inductive T where
  | nm (i : Nat) | sub (o i : E) | tup (ts : T) | nil | cons (a b : T)
inductive S where
  | skip | seq (a b : S) | ex (e : E) | ret (e : E) | retN
  | asg (t : T) (e : E)
  | aug (i : Nat) (b : Bi) (e : E)
  | ite (c : E) (a b : S)
  | while_ (c : E) (b : S)
  | for_ (t : T) (it : E) (b : S)
  | brk | cont
  | raise_ (cls : Nat) (e : E)
  /-- the first clause: its class, its answer (a return's) -/
  | try_ (b : S) (c : Nat) (r : D)
  | never

abbrev Rho := List (Option D)
/-- what is walked: given items, a cell's items as they stand -/
inductive Src where
  | items (xs : List D)
  | cell (n : Nat)
def rgI (lo : Int) (n : Nat) (c : Int) : List D := (List.range n).map fun (i : Nat) => .int (lo + i * c)
def rg3n (i j c : Int) : Nat := if c < 0 then ((i - j + (-c) - 1) / (-c)).toNat else if c = 0 then 0 else ((j - i + c - 1) / c).toNat
def zipD : List D → List D → List D
  | x :: xs, y :: ys => .tup [x, y] :: zipD xs ys
  | _, _ => []
def enumD : Nat → List D → List D
  | _, [] => []
  | n, x :: xs => .tup [.int n, x] :: enumD (n + 1) xs
def argsOf : D → Option (List D)
  | .tup xs => some xs
  | _ => none
def setMany : List Nat → List D → Rho → Option Rho
  | [], [], ρ => some ρ
  | i :: is, d :: ds, ρ => setMany is ds (ρ.set i (some d))
  | _, _, _ => none
/-- a comprehension's target -/
def bindC (one : Bool) (tg : List Nat) (d : D) (ρ : Rho) : Option Rho :=
  if one then setMany tg [d] ρ else match d with
    | .tup xs => setMany tg xs ρ
    | _ => none
def compItems (f : D → M (Option D)) : List D → M (List D)
  | [] => fun st => .ok [] st
  | x :: xs => do
    let o ← f x
    let r ← compItems f xs
    match o with
    | some d => fun st => .ok (d :: r) st
    | none => fun st => .ok r st
/-- over a cell: as it stands at each turn -/
def compCell (f : D → M (Option D)) (n : Nat) : Nat → Nat → M (List D)
  | 0, i => fun st => match st[n]? with
    | some (.lst ys) => if ys.length ≤ i then .ok [] st else .stuck
    | none => .stuck
  | k + 1, i => fun st => match st[n]? with
    | some (.lst ys) => match ys[i]? with
      | none => .ok [] st
      | some y => (do
          let o ← f y
          let r ← compCell f n k (i + 1)
          match o with
          | some d => fun st => .ok (d :: r) st
          | none => fun st => .ok r st : M (List D)) st
    | none => .stuck
def compSrc (f : D → M (Option D)) : Src → M (List D)
  | .items xs => compItems f xs
  | .cell n => fun st => match st[n]? with
    | some (.lst ys) => compCell f n ys.length 0 st
    | none => .stuck
def cellLen (n : Nat) : M Nat := fun st => match st[n]? with
  | some (.lst ys) => .ok ys.length st
  | none => .stuck
def asBool : D → M Bool
  | .bl b => fun st => .ok b st
  | _ => stuck
def tupOf : D → M (List D)
  | .tup xs => fun st => .ok xs st
  | _ => stuck
/-- what is unpacked -/
def itemsM (n : Nat) (d : D) : M (List D) := fun st => match d with
  | .tup xs => if xs.length = n then .ok xs st else .stuck
  | _ => .stuck
def lenT : T → Nat
  | .cons _ b => lenT b + 1
  | _ => 0
def getV (ρ : Rho) (i : Nat) : M D := fun st => match ρ[i]? with
  | some (some d) => .ok d st
  | _ => .stuck
def mkTup (xs : List D) : M D := fun st => if fits xs.length then .ok (.tup xs) st else .stuck
def mkLst (c : Bool) (xs : List D) : M D := fun st => if fits xs.length then mkL c xs st else .stuck
def srcOf (d : D) : M Src := fun st => match d with
  | .tup xs => .ok (.items xs) st
  | .lst xs => .ok (.items xs) st
  | .ref n => .ok (.cell n) st
  | _ => .stuck
def smallI : D → M Int
  | .int i => fun st => if small i then .ok i st else .stuck
  | _ => stuck
/-- both lists, or both tuples; no cells -/
def zipSrc (a b : D) : M Src := fun st => match a, b with
  | .tup xs, .tup ys => .ok (.items (zipD xs ys)) st
  | .lst xs, .lst ys => .ok (.items (zipD xs ys)) st
  | _, _ => .stuck
def enumSrc (a : D) : M Src := fun st => match a with
  | .lst xs => .ok (.items (enumD 0 xs)) st
  | _ => .stuck

def intPart : D → M (Option Int)
  | .int i => fun st => .ok (some i) st
  | _ => stuck
def isLst (d : D) : M Unit := fun st => match lstOf st d with
  | some _ => .ok () st
  | none => .stuck

section
variable (cf : Nat → List D → M D)
mutual
def evE : E → Rho → M D
  | .var i, ρ => getV ρ i
  | .cst d, _ => fun st => .ok d st
  | .glo d, _ => fun st => .ok d st
  | .fnv i, _ => fun st => .ok (.fn i) st
  | .nil, _ => fun st => .ok (.tup []) st
  | .cons a b, ρ => do
    let x ← evE a ρ
    let r ← evE b ρ
    let xs ← tupOf r
    fun st => .ok (.tup (x :: xs)) st
  | .tup es, ρ => do
    let r ← evE es ρ
    let xs ← tupOf r
    mkTup xs
  | .lst c es, ρ => do
    let r ← evE es ρ
    let xs ← tupOf r
    mkLst c xs
  | .bi b es, ρ => do
    let r ← evE es ρ
    let xs ← tupOf r
    biV b xs
  | .sl c l h a lo hi, ρ => do
    let d ← evE a ρ
    let x ← (if l then (do
      let y ← evE lo ρ
      intPart y) else fun st => .ok none st : M (Option Int))
    let z ← (if h then (do
      let y ← evE hi ρ
      intPart y) else fun st => .ok none st : M (Option Int))
    sliceV c d x z
  | .mth b o es, ρ => do
    let d ← evE o ρ
    isLst d
    let r ← evE es ρ
    let xs ← tupOf r
    biV b (d :: xs)
  | .and_ a b, ρ => do
    let x ← evE a ρ
    let c ← asBool x
    if c then evE b ρ else fun st => .ok (.bl false) st
  | .or_ a b, ρ => do
    let x ← evE a ρ
    let c ← asBool x
    if c then (fun st => .ok (.bl true) st) else evE b ρ
  | .not_ a, ρ => do
    let x ← evE a ρ
    let c ← asBool x
    fun st => .ok (.bl (!c)) st
  | .ite c a b, ρ => do
    let x ← evE c ρ
    let c ← asBool x
    if c then evE a ρ else evE b ρ
  | .chain o p a b c, ρ => do
    let x ← evE a ρ
    let y ← evE b ρ
    let r ← biV o [x, y]
    let k ← asBool r
    if k then do
      let z ← evE c ρ
      biV p [y, z]
    else fun st => .ok (.bl false) st
  | .call f es, ρ => do
    let r ← evE es ρ
    let xs ← tupOf r
    cf f xs
  | .callv f es, ρ => do
    let g ← evE f ρ
    match g with
    | .fn i => do
      let r ← noExc (evE es ρ)
      let xs ← tupOf r
      cf i xs
    | _ => stuck
  | .comp cell elt tg one it cond, ρ => do
    let s ← evI it ρ
    let xs ← noExc (compSrc (fun d => do
      let ρ' ← ofOpt (bindC one tg d ρ)
      let x ← evE cond ρ'
      let c ← asBool x
      if c then do
        let y ← evE elt ρ'
        fun st => .ok (some y) st
      else fun st => .ok none st) s)
    fun st => if decide (xs.length ≤ 16777216) then mkL cell xs st else .stuck
  | .comp2 elt i j it1 it2 cond, ρ => do
    let s ← evI it1 ρ
    let xss ← noExc (compSrc (fun d => do
      let ρ1 ← ofOpt (bindC true [i] d ρ)
      let s2 ← evI it2 ρ1
      let ys ← compSrc (fun d2 => do
        let ρ2 ← ofOpt (bindC true [j] d2 ρ1)
        let x ← evE cond ρ2
        let c ← asBool x
        if c then do
          let y ← evE elt ρ2
          fun st => .ok (some y) st
        else fun st => .ok none st) s2
      fun st => .ok (some (.lst ys)) st) s)
    fun st => match (xss.mapM (lstOf [])).map List.flatten with
      | some xs => if decide (xs.length ≤ 16777216) then .ok (.lst xs) st else .stuck
      | none => .stuck
  | .lsI c it, ρ => do
    let s ← evI it ρ
    match s with
    | .items xs => mkLst c xs
    | _ => stuck
  | .tpI it, ρ => do
    let s ← evI it ρ
    match s with
    | .items xs => mkTup xs
    | _ => stuck
  | .sq _, _ => stuck
  | .rg1 _, _ => stuck
  | .rg2 _ _, _ => stuck
  | .rg3 _ _ _, _ => stuck
  | .zip _ _, _ => stuck
  | .enum _, _ => stuck
def evI : E → Rho → M Src
  | .sq e, ρ => do
    let d ← evE e ρ
    srcOf d
  | .rg1 a, ρ => do
    let x ← evE a ρ
    let j ← smallI x
    fun st => .ok (.items (rgI 0 j.toNat 1)) st
  | .rg2 a b, ρ => do
    let x ← evE a ρ
    let y ← evE b ρ
    let i ← smallI x
    let j ← smallI y
    fun st => .ok (.items (rgI i (j - i).toNat 1)) st
  | .rg3 a b c, ρ => do
    let x ← evE a ρ
    let y ← evE b ρ
    let z ← evE c ρ
    let i ← smallI x
    let j ← smallI y
    match z with
    | .int c => if c = -1 then (fun st => .ok (.items (rgI i (i - j).toNat (-1))) st) else stuck
    | _ => stuck
  | .zip a b, ρ => do
    let x ← evE a ρ
    let y ← evE b ρ
    zipSrc x y
  | .enum a, ρ => do
    let x ← evE a ρ
    enumSrc x
  | _, _ => stuck
end

inductive Fl where
  | nx (ρ : Rho) | rt (d : D) | bk (ρ : Rho) | ct (ρ : Rho)
def setItemV (o i v : D) : M Unit := fun st => match o, i with
  | .ref n, .int k => match st[n]? with
    | some (.lst xs) => match L2.ixN xs.length k with
      | some j => .ok () (st.set n (.lst (xs.set j v)))
      | none => .stuck
    | none => .stuck
  | _, _ => .stuck
mutual
def asT : T → D → Rho → M Rho
  | .nm i, d, ρ => fun st => .ok (ρ.set i (some d)) st
  | .sub o i, d, ρ => do
    let x ← evE cf o ρ
    let y ← evE cf i ρ
    setItemV x y d
    fun st => .ok ρ st
  | .tup ts, d, ρ => do
    let xs ← itemsM (lenT ts) d
    asTs ts xs ρ
  | _, _, _ => stuck
def asTs : T → List D → Rho → M Rho
  | .nil, [], ρ => fun st => .ok ρ st
  | .cons t ts, x :: xs, ρ => do
    let ρ' ← asT t x ρ
    asTs ts xs ρ'
  | _, _, _ => stuck
end
def loopItems (body : D → Rho → M Fl) : List D → Rho → M Fl
  | [], ρ => fun st => .ok (.nx ρ) st
  | x :: xs, ρ => do
    let f ← body x ρ
    match f with
    | .nx ρ' => loopItems body xs ρ'
    | .ct ρ' => loopItems body xs ρ'
    | .bk ρ' => fun st => .ok (.nx ρ') st
    | .rt d => fun st => .ok (.rt d) st
def loopCell (body : D → Rho → M Fl) (n : Nat) : Nat → Nat → Rho → M Fl
  | 0, i, ρ => fun st => match st[n]? with
    | some (.lst ys) => if ys.length ≤ i then .ok (.nx ρ) st else .stuck
    | none => .stuck
  | k + 1, i, ρ => fun st => match st[n]? with
    | some (.lst ys) => match ys[i]? with
      | none => .ok (.nx ρ) st
      | some y => (do
          let f ← body y ρ
          match f with
          | .nx ρ' => loopCell body n k (i + 1) ρ'
          | .ct ρ' => loopCell body n k (i + 1) ρ'
          | .bk ρ' => fun st => .ok (.nx ρ') st
          | .rt d => fun st => .ok (.rt d) st : M Fl) st
    | none => .stuck
def loopSrc (body : D → Rho → M Fl) : Src → Rho → M Fl
  | .items xs, ρ => loopItems body xs ρ
  | .cell n, ρ => fun st => match st[n]? with
    | some (.lst ys) => loopCell body n ys.length 0 ρ st
    | none => .stuck
def whileM (test : Rho → M Bool) (body : Rho → M Fl) : Nat → Rho → M Fl
  | 0, _ => stuck
  | n + 1, ρ => do
    let c ← test ρ
    if c then do
      let f ← body ρ
      match f with
      | .nx ρ' => whileM test body n ρ'
      | .ct ρ' => whileM test body n ρ'
      | .bk ρ' => fun st => .ok (.nx ρ') st
      | .rt d => fun st => .ok (.rt d) st
    else fun st => .ok (.nx ρ) st
/-- x op= y, of ints -/
def augV : Bi → D → D → M D
  | .add _, .int i, .int j => ret (.int (i + j))
  | .sub, .int i, .int j => ret (.int (i - j))
  | .mul _, .int i, .int j => mulV false (.int i) (.int j)
  | .fdiv, .int i, .int j => if divOk j then ret (.int (i.fdiv j)) else stuck
  | _, _, _ => stuck
def fuelW : Nat := 1099511627776
def evS : S → Rho → M Fl
  | .skip, ρ => fun st => .ok (.nx ρ) st
  | .seq a b, ρ => do
    let f ← evS a ρ
    match f with
    | .nx ρ' => evS b ρ'
    | f => fun st => .ok f st
  | .ex e, ρ => do
    let _ ← evE cf e ρ
    fun st => .ok (.nx ρ) st
  | .ret e, ρ => do
    let d ← evE cf e ρ
    fun st => .ok (.rt d) st
  | .retN, _ => fun st => .ok (.rt .non) st
  | .asg t e, ρ => do
    let d ← evE cf e ρ
    let ρ' ← asT cf t d ρ
    fun st => .ok (.nx ρ') st
  | .aug i b e, ρ => do
    let x ← getV ρ i
    let y ← evE cf e ρ
    let z ← augV b x y
    fun st => .ok (.nx (ρ.set i (some z))) st
  | .ite c a b, ρ => do
    let x ← evE cf c ρ
    let k ← asBool x
    if k then evS a ρ else evS b ρ
  | .while_ c b, ρ => whileM (fun ρ => do
      let x ← evE cf c ρ
      asBool x) (fun ρ => evS b ρ) fuelW ρ
  | .for_ t it b, ρ => do
    let s ← evI cf it ρ
    loopSrc (fun d ρ => do
      let ρ' ← asT cf t d ρ
      evS b ρ') s ρ
  | .brk, ρ => fun st => .ok (.bk ρ) st
  | .cont, ρ => fun st => .ok (.ct ρ) st
  | .raise_ c e, ρ => do
    let d ← evE cf e ρ
    fun st => .exc ⟨c, d⟩ st
  | .try_ b c r, ρ => fun st => match evS b ρ st with
    | .ok f st' => .ok f st'
    | .stuck => .stuck
    | .exc e st' => if e.cls = c then .ok (.rt r) st' else .stuck
  | .never, _ => stuck
end

structure Def where
  np : Nat
  ns : Nat
  body : S
  keep : Bool := false
mutual
/-- cells from base on become inline lists -/
def fz (st : Store) (base : Nat) : Nat → D → Option D
  | 0, _ => none
  | _ + 1, .non => some .non
  | _ + 1, .bl b => some (.bl b)
  | _ + 1, .int i => some (.int i)
  | _ + 1, .str s => some (.str s)
  | _ + 1, .fn i => some (.fn i)
  | _ + 1, .lok _ => none
  | k + 1, .tup xs => (fzs st base k xs).map .tup
  | k + 1, .lst xs => (fzs st base k xs).map .lst
  | k + 1, .ref n => if n < base then some (.ref n) else match st[n]? with
    | some (.lst xs) => (fzs st base k xs).map .lst
    | none => none
def fzs (st : Store) (base : Nat) : Nat → List D → Option (List D)
  | _, [] => some []
  | 0, _ :: _ => none
  | k + 1, x :: xs => do
    let y ← fz st base k x
    let ys ← fzs st base k xs
    some (y :: ys)
end
mutual
def below (n : Nat) : D → Bool
  | .tup xs => belows n xs
  | .lst xs => belows n xs
  | .ref m => decide (m < n)
  | .lok _ => false
  | _ => true
def belows (n : Nat) : List D → Bool
  | [] => true
  | x :: xs => below n x && belows n xs
end
/-- each elder cell is as it was, or speaks of elder cells alone -/
def oldOk (base : Nat) : Store → Store → Bool
  | .lst xs :: r, .lst ys :: r' => (sames xs ys || belows base ys) && oldOk base r r'
  | [], _ => true
  | _ :: _, [] => false
def leave (keep : Bool) (st0 : Store) (d : D) (st : Store) : Res D :=
  if keep then .ok d st else if st.length = st0.length then (if below st0.length d then .ok d st else .stuck) else
  if oldOk st0.length st0 st then match fz st st0.length 1000000 d with
    | some d' => .ok d' (st.take st0.length)
    | none => .stuck
  else .stuck
def leaveX (st0 : Store) (e : Exc) (st : Store) : Res D :=
  if below 0 e.val then (if st.length = st0.length then .exc e st else if oldOk st0.length st0 st then .exc e (st.take st0.length) else .stuck) else .stuck
/-- a call, k levels deep at most -/
def callF (tbl : Nat → Option Def) : Nat → Nat → List D → M D
  | 0, _, _ => stuck
  | k + 1, f, args => fun st => match tbl f with
    | none => .stuck
    | some d => if args.length = d.np then match evS (callF tbl k) d.body (args.map some ++ List.replicate (d.ns - d.np) none) st with
        | .ok (.rt r) st' => leave d.keep st r st'
        | .ok (.nx _) st' => leave d.keep st .non st'
        | .ok _ _ => .stuck
        | .exc e st' => leaveX st e st'
        | .stuck => .stuck
      else .stuck
end PC
set_option Elab.async false
set_option linter.all false
set_option maxRecDepth 100000
set_option maxHeartbeats 4000000
namespace PC
open PySem PySem.Spec L2

section
variable (K : PySem.W.Frag) (fa : Nat → Addr)
/-- a tuple: tracked, off the cells; or one of the text's own -/
def TupAt (φ hid : List Addr) (H : Hp) (a : Addr) (vs : List V) : Prop :=
  (H a = some (.tup vs) ∧ a ∉ φ ∧ a ∉ hid) ∨
    ∃ (o : Obj) (its : Array Value) (n : Nat), K.lookup a = some o ∧ o.cls = .type "tuple" ∧ o.data = .seq its n ∧ its.size ≤ sizeLine ∧ Vals vs its.toList
/-- the script: locked, or one of the text's own -/
def LokAt (φ hid : List Addr) (H : Hp) (a : Addr) (vs : List V) : Prop :=
  (∃ o, H a = some (.frz o (.lst vs)) ∧ a ∉ φ ∧ a ∉ hid) ∨
    ∃ (o : Obj) (its : Array Value) (n : Nat), K.lookup a = some o ∧ o.cls = .type "list" ∧ o.dict = none ∧ o.data = .seq its n ∧ its.size ≤ sizeLine ∧ Vals vs its.toList
mutual
/-- φ: the cells' addresses; hid: lists in the making, spoken of by none -/
inductive Rep (φ hid : List Addr) (H : Hp) : D → V → Prop
  | non : Rep φ hid H .non .non
  | bl (b : Bool) : Rep φ hid H (.bl b) (.bl b)
  | int (i : Int) : Rep φ hid H (.int i) (.int i)
  | str (s : Str) : Rep φ hid H (.str s) (.str s)
  | tup {xs : List D} {vs : List V} {a : Addr} : TupAt K φ hid H a vs → Reps φ hid H xs vs → Rep φ hid H (.tup xs) (.ref a)
  | lst {xs : List D} {vs : List V} {a : Addr} : H a = some (.lst vs) → a ∉ φ → a ∉ hid → Reps φ hid H xs vs → Rep φ hid H (.lst xs) (.ref a)
  | ref {n : Nat} {a : Addr} : φ[n]? = some a → Rep φ hid H (.ref n) (.ref a)
  | fn (i : Nat) : Rep φ hid H (.fn i) (.ref (fa i))
  | lok {xs : List D} {vs : List V} {a : Addr} : LokAt K φ hid H a vs → Reps φ hid H xs vs → Rep φ hid H (.lok xs) (.ref a)
inductive Reps (φ hid : List Addr) (H : Hp) : List D → List V → Prop
  | nil : Reps φ hid H [] []
  | cons {x : D} {v : V} {xs : List D} {vs : List V} : Rep φ hid H x v → Reps φ hid H xs vs → Reps φ hid H (x :: xs) (v :: vs)
end
/-- from a heap to a later one: only cells were written, new cells were new -/
structure Ext (φ : List Addr) (H : Hp) (φ' : List Addr) (H' : Hp) : Prop where
  pre : φ <+: φ'
  fr : ∀ b o, H b = some o → b ∉ φ → H' b = some o
  nw : ∀ b ∈ φ', b ∈ φ ∨ H b = none
structure StoreOk (st : Store) (φ hid : List Addr) (H : Hp) : Prop where
  len : φ.length = st.length
  nd : φ.Nodup
  off : ∀ a ∈ φ, a ∉ hid
  seen : ∀ a ∈ hid, H a ≠ none
  cell : ∀ (n : Nat) (xs : List D), st[n]? = some (.lst xs) → ∃ a vs, φ[n]? = some a ∧ H a = some (.lst vs) ∧ Reps K fa φ hid H xs vs
def EnvOk (ρ : Rho) (σ : St) (φ hid : List Addr) (H : Hp) : Prop :=
  σ.length = ρ.length ∧ ∀ (i : Nat) (d : D), ρ[i]? = some (some d) → ∃ v, σ[i]? = some (some v) ∧ Rep K fa φ hid H d v
end

section
variable {K : PySem.W.Frag} {fa : Nat → Addr} {φ φ' φ'' hid : List Addr} {H H' H'' : Hp} {st : Store} {d : D} {v : V}
theorem Ext.refl : Ext φ H φ H := ⟨List.prefix_rfl, fun _ _ h _ => h, fun _ h => .inl h⟩
theorem Ext.trans (a : Ext φ H φ' H') (b : Ext φ' H' φ'' H'') : Ext φ H φ'' H'' where
  pre := a.pre.trans b.pre
  fr := fun c o h n => b.fr c o (a.fr c o h n) fun z => by
    rcases a.nw c z with y | y
    · exact n y
    · rw [h] at y; cases y
  nw := fun c h => by
    rcases b.nw c h with y | y
    · exact a.nw c y
    · by_cases hc : c ∈ φ
      · exact .inl hc
      · refine .inr ?_
        cases q : H c with
        | none => rfl
        | some o => rw [a.fr c o q hc] at y; cases y
theorem keepExt {a : Addr} {o : HO} (h : H a = some o) (e : Ext φ H φ' H') (n : a ∉ φ) : H' a = some o ∧ a ∉ φ' := ⟨e.fr a o h n, fun z => by
    rcases e.nw a z with y | y
    · exact n y
    · rw [h] at y; cases y⟩
theorem TupAt.ext {a : Addr} {vs : List V} (t : TupAt K φ hid H a vs) (e : Ext φ H φ' H') : TupAt K φ' hid H' a vs := by
  rcases t with ⟨r, n, m⟩ | t
  · exact .inl ⟨(keepExt r e n).1, (keepExt r e n).2, m⟩
  · exact .inr t
theorem TupAt.sq {a : Addr} {vs : List V} (t : TupAt K φ hid H a vs) : SqT K H a vs := by
  rcases t with ⟨r, _⟩ | t
  · exact .inl (.inl r)
  · exact .inr t
theorem LokAt.ext {a : Addr} {vs : List V} (t : LokAt K φ hid H a vs) (e : Ext φ H φ' H') : LokAt K φ' hid H' a vs := by
  rcases t with ⟨o, r, n, m⟩ | t
  · exact .inl ⟨o, (keepExt r e n).1, (keepExt r e n).2, m⟩
  · exact .inr t
theorem LokAt.sq {a : Addr} {vs : List V} (t : LokAt K φ hid H a vs) : SqL K H a vs := by
  rcases t with ⟨o, r, _⟩ | t
  · exact .inl (.inr ⟨o, r⟩)
  · exact .inr t
mutual
theorem Rep.ext (e : Ext φ H φ' H') : ∀ {d : D} {v : V}, Rep K fa φ hid H d v → Rep K fa φ' hid H' d v
  | _, _, .non => .non
  | _, _, .bl b => .bl b
  | _, _, .int i => .int i
  | _, _, .str s => .str s
  | _, _, .tup t r => .tup (t.ext e) (Reps.ext e r)
  | _, _, .lst t n m r => .lst (keepExt t e n).1 (keepExt t e n).2 m (Reps.ext e r)
  | _, _, .lok t r => .lok (t.ext e) (Reps.ext e r)
  | _, _, .ref h => .ref (by
      obtain ⟨l, hl⟩ := e.pre
      rw [← hl, List.getElem?_append_left]
      · exact h
      · exact (List.getElem?_eq_some_iff.mp h).1)
  | _, _, .fn i => .fn i
theorem Reps.ext (e : Ext φ H φ' H') : ∀ {xs : List D} {vs : List V}, Reps K fa φ hid H xs vs → Reps K fa φ' hid H' xs vs
  | _, _, .nil => .nil
  | _, _, .cons h t => .cons (Rep.ext e h) (Reps.ext e t)
end
theorem Reps.length : ∀ {xs : List D} {vs : List V}, Reps K fa φ hid H xs vs → vs.length = xs.length
  | _, _, .nil => rfl
  | _, _, .cons _ t => by rw [List.length_cons, List.length_cons, Reps.length t]
theorem Reps.get : ∀ {xs : List D} {vs : List V} {i : Nat} {x : D}, Reps K fa φ hid H xs vs → xs[i]? = some x → ∃ v, vs[i]? = some v ∧ Rep K fa φ hid H x v
  | _, _, _, _, .nil, e => by simp at e
  | _, _, 0, _, .cons r _, e => by simp at e; subst e; exact ⟨_, rfl, r⟩
  | _, _, i + 1, x, .cons _ t, e => by
    obtain ⟨u, h1, h2⟩ := Reps.get (i := i) (x := x) t (by simpa using e)
    exact ⟨u, by simpa using h1, h2⟩
theorem Reps.append : ∀ {xs ys : List D} {us ws : List V}, Reps K fa φ hid H xs us → Reps K fa φ hid H ys ws → Reps K fa φ hid H (xs ++ ys) (us ++ ws)
  | _, _, _, _, .nil, s => s
  | _, _, _, _, .cons r t, s => .cons r (Reps.append t s)
theorem Reps.take : ∀ {xs : List D} {us : List V} (n : Nat), Reps K fa φ hid H xs us → Reps K fa φ hid H (xs.take n) (us.take n)
  | _, _, 0, _ => .nil
  | _, _, _ + 1, .nil => .nil
  | _, _, n + 1, .cons r t => .cons r (Reps.take n t)
theorem Reps.drop : ∀ {xs : List D} {us : List V} (n : Nat), Reps K fa φ hid H xs us → Reps K fa φ hid H (xs.drop n) (us.drop n)
  | _, _, 0, r => r
  | _, _, _ + 1, .nil => .nil
  | _, _, n + 1, .cons _ t => Reps.drop n t
theorem Reps.set : ∀ {xs : List D} {us : List V} {x : D} {u : V} (i : Nat), Rep K fa φ hid H x u → Reps K fa φ hid H xs us → Reps K fa φ hid H (xs.set i x) (us.set i u)
  | _, _, _, _, _, _, .nil => .nil
  | _, _, _, _, 0, r, .cons _ t => .cons r t
  | _, _, _, _, i + 1, r, .cons q t => .cons q (Reps.set i r t)
theorem Reps.reverse {xs : List D} {us : List V} (h : Reps K fa φ hid H xs us) : Reps K fa φ hid H xs.reverse us.reverse := by
  have key : ∀ {xs : List D} {us : List V}, Reps K fa φ hid H xs us → Reps K fa φ hid H xs.reverse us.reverse := by
    intro xs us h
    induction xs generalizing us with
    | nil => cases h; exact .nil
    | cons x xs ih =>
      cases h with
      | cons r t =>
        rw [List.reverse_cons, List.reverse_cons]
        exact (ih t).append (.cons r .nil)
  exact key h
theorem Reps.dropLast {xs : List D} {us : List V} (h : Reps K fa φ hid H xs us) : Reps K fa φ hid H xs.dropLast us.dropLast := by
  rw [List.dropLast_eq_take, List.dropLast_eq_take, h.length]
  exact h.take _
theorem Reps.eraseIdx {xs : List D} {us : List V} (i : Nat) (h : Reps K fa φ hid H xs us) : Reps K fa φ hid H (xs.eraseIdx i) (us.eraseIdx i) := by
  rw [List.eraseIdx_eq_take_drop_succ, List.eraseIdx_eq_take_drop_succ]
  exact (h.take i).append (h.drop (i + 1))
theorem Reps.rep {xs : List D} {us : List V} (h : Reps K fa φ hid H xs us) : ∀ n : Nat, Reps K fa φ hid H (List.replicate n xs).flatten (List.replicate n us).flatten
  | 0 => .nil
  | n + 1 => by
    rw [List.replicate_succ, List.replicate_succ, List.flatten_cons, List.flatten_cons]
    exact h.append (h.rep n)
theorem Reps.ints : ∀ {xs : List D} {us : List V} {ns : List Int}, Reps K fa φ hid H xs us → allInts xs = some ns → us = ns.map V.int
  | _, _, _, .nil, e => by
    have e' : some [] = some _ := e
    cases e'; rfl
  | _, _, _, .cons (x := x) (xs := xs) r t, e => by
    cases x with
    | int i =>
      cases r
      have e' : (allInts xs).map (i :: ·) = some _ := e
      obtain ⟨ms, h1, h2⟩ := Option.map_eq_some_iff.mp e'
      subst h2
      rw [Reps.ints t h1]; rfl
    | _ => cases e
theorem Reps.bools : ∀ {xs : List D} {us : List V} {ns : List Bool}, Reps K fa φ hid H xs us → allBools xs = some ns → us = ns.map V.bl
  | _, _, _, .nil, e => by
    have e' : some [] = some _ := e
    cases e'; rfl
  | _, _, _, .cons (x := x) (xs := xs) r t, e => by
    cases x with
    | bl i =>
      cases r
      have e' : (allBools xs).map (i :: ·) = some _ := e
      obtain ⟨ms, h1, h2⟩ := Option.map_eq_some_iff.mp e'
      subst h2
      rw [Reps.bools t h1]; rfl
    | _ => cases e
theorem StoreOk.same (s : StoreOk K fa st φ hid H) : Ext φ H φ H ∧ StoreOk K fa st φ hid H := ⟨.refl, s⟩
theorem StoreOk.there (s : StoreOk K fa st φ hid H) {a : Addr} (h : a ∈ φ) : ∃ vs, H a = some (.lst vs) := by
  obtain ⟨n, hn⟩ := List.getElem?_of_mem h
  have hlt : n < st.length := by rw [← s.len]; exact (List.getElem?_eq_some_iff.mp hn).1
  cases hc : st[n] with
  | lst xs =>
    obtain ⟨b, vs, h1, h2, _⟩ := s.cell n xs (by rw [List.getElem?_eq_getElem hlt, hc])
    rw [hn] at h1; cases h1
    exact ⟨vs, h2⟩
theorem EnvOk.ext {ρ : Rho} {σ : St} (h : EnvOk K fa ρ σ φ hid H) (e : Ext φ H φ' H') : EnvOk K fa ρ σ φ' hid H' :=
  ⟨h.1, fun i d hd => let ⟨v, h1, h2⟩ := h.2 i d hd; ⟨v, h1, h2.ext e⟩⟩
theorem EnvOk.set {ρ : Rho} {σ : St} {i : Nat} (h : EnvOk K fa ρ σ φ hid H) (r : Rep K fa φ hid H d v) : EnvOk K fa (ρ.set i (some d)) (σ.set i (some v)) φ hid H := by
  refine ⟨by rw [List.length_set, List.length_set]; exact h.1, fun j x hx => ?_⟩
  by_cases hj : i = j
  · subst hj
    have hlt : i < ρ.length := by
      have := (List.getElem?_eq_some_iff.mp hx).1
      rwa [List.length_set] at this
    rw [List.getElem?_set_self hlt] at hx
    cases hx
    exact ⟨v, List.getElem?_set_self (by rw [h.1]; exact hlt), r⟩
  · rw [List.getElem?_set_ne hj] at hx
    obtain ⟨u, h1, h2⟩ := h.2 j x hx
    exact ⟨u, by rw [List.getElem?_set_ne hj]; exact h1, h2⟩

/-- a new object off the cells -/
theorem Ext.new {p : Addr} {o : HO} (hp : H p = none) : Ext φ H φ (upd H p o) :=
  ⟨List.prefix_rfl, fun b u h _ => by rw [upd_ne (ne_of_none h hp)]; exact h, fun _ h => .inl h⟩
theorem StoreOk.ext1 (s : StoreOk K fa st φ hid H) (e : Ext φ H φ H') (hc : ∀ a ∈ φ, H' a = H a) : StoreOk K fa st φ hid H' where
  len := s.len
  nd := s.nd
  off := s.off
  seen := fun a ha => by
    have h := s.seen a ha
    cases q : H a with
    | none => exact absurd q h
    | some o => rw [e.fr a o q fun z => s.off a z ha]; simp
  cell := fun n xs hn => by
    obtain ⟨a, vs, h1, h2, h3⟩ := s.cell n xs hn
    exact ⟨a, vs, h1, by rw [hc a (List.mem_of_getElem? h1)]; exact h2, h3.ext e⟩
theorem StoreOk.new {p : Addr} {o : HO} (s : StoreOk K fa st φ hid H) (hp : H p = none) : StoreOk K fa st φ hid (upd H p o) :=
  s.ext1 (.new hp) fun a ha => by
    obtain ⟨vs, h⟩ := s.there ha
    exact upd_ne (ne_of_none h hp)
theorem not_mem_of_none {p : Addr} (s : StoreOk K fa st φ hid H) (hp : H p = none) : p ∉ φ ∧ p ∉ hid :=
  ⟨fun z => (by obtain ⟨vs, h⟩ := s.there z; rw [hp] at h; cases h), fun z => s.seen p z hp⟩
theorem Rep.newTup {p : Addr} {xs : List D} {vs : List V} (s : StoreOk K fa st φ hid H) (hp : H p = none) (r : Reps K fa φ hid H xs vs) : Rep K fa φ hid (upd H p (.tup vs)) (.tup xs) (.ref p) :=
  .tup (.inl ⟨upd_same, (not_mem_of_none s hp).1, (not_mem_of_none s hp).2⟩) (r.ext (.new hp))
theorem Rep.newLst {p : Addr} {xs : List D} {vs : List V} (s : StoreOk K fa st φ hid H) (hp : H p = none) (r : Reps K fa φ hid H xs vs) : Rep K fa φ hid (upd H p (.lst vs)) (.lst xs) (.ref p) :=
  .lst upd_same (not_mem_of_none s hp).1 (not_mem_of_none s hp).2 (r.ext (.new hp))
/-- a new cell -/
theorem Ext.cell {p : Addr} {o : HO} (hp : H p = none) : Ext φ H (φ ++ [p]) (upd H p o) where
  pre := List.prefix_append _ _
  fr := fun b u h _ => by rw [upd_ne (ne_of_none h hp)]; exact h
  nw := fun b h => by
    rcases List.mem_append.mp h with h | h
    · exact .inl h
    · rw [List.mem_singleton.mp h]; exact .inr hp
theorem StoreOk.newCell {p : Addr} {xs : List D} {vs : List V} (s : StoreOk K fa st φ hid H) (hp : H p = none) (r : Reps K fa φ hid H xs vs) : StoreOk K fa (st ++ [.lst xs]) (φ ++ [p]) hid (upd H p (.lst vs)) where
  len := by rw [List.length_append, List.length_append, s.len]; rfl
  nd := by
    rw [List.nodup_append]
    refine ⟨s.nd, by simp, fun a ha b hb => ?_⟩
    rw [List.mem_singleton.mp hb]
    rintro rfl
    exact (not_mem_of_none s hp).1 ha
  off := fun a ha => by
    rcases List.mem_append.mp ha with h | h
    · exact s.off a h
    · rw [List.mem_singleton.mp h]; exact (not_mem_of_none s hp).2
  seen := fun a ha => by
    have h := s.seen a ha
    by_cases q : a = p
    · subst q; exact absurd hp h
    · rw [upd_ne q]; exact h
  cell := fun n ys hn => by
    by_cases hlt : n < st.length
    · rw [List.getElem?_append_left hlt] at hn
      obtain ⟨a, ws, h1, h2, h3⟩ := s.cell n ys hn
      refine ⟨a, ws, ?_, by rw [upd_ne (ne_of_none h2 hp)]; exact h2, h3.ext (.cell hp)⟩
      rw [List.getElem?_append_left (by rw [s.len]; exact hlt)]; exact h1
    · have e : n = st.length := by
        have := (List.getElem?_eq_some_iff.mp hn).1
        rw [List.length_append, List.length_singleton] at this
        omega
      subst e
      rw [List.getElem?_append_right (Nat.le_refl _), Nat.sub_self] at hn
      cases hn
      exact ⟨p, vs, by rw [← s.len, List.getElem?_append_right (Nat.le_refl _), Nat.sub_self]; rfl, upd_same, r.ext (.cell hp)⟩
theorem Rep.newCell {p : Addr} (s : StoreOk K fa st φ hid H) : Rep K fa (φ ++ [p]) hid H' (.ref st.length) (.ref p) :=
  .ref (by rw [← s.len, List.getElem?_append_right (Nat.le_refl _), Nat.sub_self]; rfl)
/-- a cell is written -/
theorem Ext.write {n : Nat} {a : Addr} {o : HO} (h : φ[n]? = some a) : Ext φ H φ (upd H a o) :=
  ⟨List.prefix_rfl, fun b u hb hn => by rw [upd_ne (fun z => hn (by rw [z]; exact List.mem_of_getElem? h))]; exact hb, fun _ h => .inl h⟩
theorem StoreOk.write {n : Nat} {a : Addr} {xs : List D} {vs : List V} (s : StoreOk K fa st φ hid H) (h : φ[n]? = some a) (r : Reps K fa φ hid H xs vs) : StoreOk K fa (st.set n (.lst xs)) φ hid (upd H a (.lst vs)) where
  len := by rw [List.length_set]; exact s.len
  nd := s.nd
  off := s.off
  seen := fun b hb => by
    by_cases q : b = a
    · subst q; rw [upd_same]; simp
    · rw [upd_ne q]; exact s.seen b hb
  cell := fun m ys hm => by
    by_cases q : n = m
    · subst q
      have hlt : n < st.length := by rw [← s.len]; exact (List.getElem?_eq_some_iff.mp h).1
      rw [List.getElem?_set_self hlt] at hm
      cases hm
      exact ⟨a, vs, h, upd_same, r.ext (.write h)⟩
    · rw [List.getElem?_set_ne q] at hm
      obtain ⟨b, ws, h1, h2, h3⟩ := s.cell m ys hm
      refine ⟨b, ws, h1, ?_, h3.ext (.write h)⟩
      rw [upd_ne]
      · exact h2
      · rintro rfl
        obtain ⟨l1, e1⟩ := List.getElem?_eq_some_iff.mp h
        obtain ⟨l2, e2⟩ := List.getElem?_eq_some_iff.mp h1
        exact q ((List.getElem_inj s.nd).mp (e1.trans e2.symm))
end

/-- an exception of the text: its class, its own field (told where the class has one) -/
def ExcRel (eo : Nat → Option (Value × Option Str)) (K : PySem.W.Frag) (fa : Nat → Addr) (e : Exc) (cls : Value) (dd : Option Addr) (φ hid : List Addr) (H : Hp) : Prop :=
  ∃ of, eo e.cls = some (cls, of) ∧ ∀ f, of = some f → ∃ a v, dd = some a ∧ a ∉ φ ∧ a ∉ hid ∧ H a = some (.xd [(f, v)]) ∧ Rep K fa φ hid H e.val v
section
variable (eo : Nat → Option (Value × Option Str)) (K : PySem.W.Frag) (fa : Nat → Addr)
def Wn {α : Type} (W : WX) (σ : St) (φ hid : List Addr) (H : Hp) (r : Res α) (C : α → Store → List Addr → Hp → Prop) : Prop := match r with
  | .ok a st' => ∀ H' φ', Ext φ H φ' H' → StoreOk K fa st' φ' hid H' → C a st' φ' H'
  | .exc e st' => ∀ cls dd H' φ', Ext φ H φ' H' → StoreOk K fa st' φ' hid H' → ExcRel eo K fa e cls dd φ' hid H' → W cls dd σ H'
  | .stuck => False
end
section
variable {eo : Nat → Option (Value × Option Str)} {K : PySem.W.Frag} {fa : Nat → Addr} {W : WX} {σ : St} {φ hid : List Addr} {H : Hp} {st : Store}
theorem Wn.bind {α β : Type} {m : M α} {f : α → M β} {C : β → Store → List Addr → Hp → Prop} (h : Wn eo K fa W σ φ hid H ((m >>= f) st) C) :
    Wn eo K fa W σ φ hid H (m st) (fun a st1 φ1 H1 => Wn eo K fa W σ φ1 hid H1 (f a st1) C) := by
  have h' : Wn eo K fa W σ φ hid H (match m st with
    | .ok a st' => f a st'
    | .exc e st' => .exc e st'
    | .stuck => .stuck) C := h
  cases q : m st with
  | ok a st1 =>
    rw [q] at h'
    intro H1 φ1 e1 s1
    show Wn eo K fa W σ φ1 hid H1 (f a st1) C
    have h2 : Wn eo K fa W σ φ hid H (f a st1) C := h'
    cases q2 : f a st1 with
    | ok b st2 =>
      rw [q2] at h2
      exact fun H2 φ2 e2 s2 => h2 H2 φ2 (e1.trans e2) s2
    | exc e st2 =>
      rw [q2] at h2
      exact fun cls dd H2 φ2 e2 s2 x => h2 cls dd H2 φ2 (e1.trans e2) s2 x
    | stuck => rw [q2] at h2; exact h2
  | exc e st1 => rw [q] at h'; exact h'
  | stuck => rw [q] at h'; exact h'
theorem Wn.imp {α : Type} {r : Res α} {C C' : α → Store → List Addr → Hp → Prop} (h : Wn eo K fa W σ φ hid H r C) (i : ∀ a st' φ' H', C a st' φ' H' → C' a st' φ' H') : Wn eo K fa W σ φ hid H r C' := by
  cases r with
  | ok a st' => exact fun H' φ' e s => i _ _ _ _ (h H' φ' e s)
  | exc e st' => exact h
  | stuck => exact h
theorem Wn.now {α : Type} {a : α} {C : α → Store → List Addr → Hp → Prop} (h : Wn eo K fa W σ φ hid H (.ok a st) C) (s : StoreOk K fa st φ hid H) : C a st φ H := h H φ .refl s
end
end PC
set_option Elab.async false
set_option linter.all false
set_option maxRecDepth 100000
set_option maxHeartbeats 4000000
namespace PC
open PySem PySem.Spec L2

theorem tuple_mul1 (l : Addr) (items : Array Value) (n : Nat) (dd : Option Addr) (sl : Array (Option Value)) (u : Tok) :
    Meets (Builtin.«tuple.__mul__» ⟨[.ref l, .int 1 u], []⟩) (fun _ R s => s.heap.get? l = some { cls := .type "tuple", dict := dd, data := .seq items n, slots := sl } ∧
      R (.ok (.ret (Value.ref l))) { s with toks := s.toks }) :=
  .of_wp fun prog w A R s h => by
    obtain ⟨hp, g, d, tk, os⟩ := s
    obtain ⟨hl, h⟩ := h
    have f1 := AutoSeq1.idx_int
    wp_walk using wpAny_loadPart' hl
    repeat (first
      | (refine wpAny_ite_false (decide_eq_false (by decide)) ?_; wp_walk using wpAny_loadPart' hl)
      | (refine wpAny_ite_true (decide_eq_true (by first | decide | simp)) ?_; wp_walk using wpAny_loadPart' hl))
    exact ⟨_, rfl, h⟩
theorem tuple_mul0 (l : Addr) (items : Array Value) (n : Nat) (dd : Option Addr) (sl : Array (Option Value)) (x : Int) (u : Tok) (c0 : (decide (x < -(2 ^ 63)) || decide (x ≥ 2 ^ 63)) = false) (c1 : (items.isEmpty || x == 1) = false) (c2 : (decide (x ≤ 0) || items.isEmpty) = true) :
    Meets (Builtin.«tuple.__mul__» ⟨[.ref l, .int x u], []⟩) (fun _ R s => s.heap.get? l = some { cls := .type "tuple", dict := dd, data := .seq items n, slots := sl } ∧
      R (.ok (.ret (Value.ref s.heap.objs.size))) { s with heap := s.heap.push { cls := Value.type "tuple", data := Data.seq #[] }, toks := s.toks }) :=
  .of_wp fun prog w A R s h => by
    obtain ⟨hp, g, d, tk, os⟩ := s
    obtain ⟨hl, h⟩ := h
    have f1 := AutoSeq1.idx_int
    have hsz : ¬ (#[] : Array Value).size > sizeLine := by rw [sizeLine_eq]; decide
    wp_walk using wpAny_loadPart' hl
    repeat (first
      | (refine wpAny_ite_false (decide_eq_false (by rw [c0]; exact Bool.false_ne_true)) ?_; wp_walk using wpAny_loadPart' hl)
      | (refine wpAny_ite_false (decide_eq_false (by rw [c1]; exact Bool.false_ne_true)) ?_; wp_walk using wpAny_loadPart' hl)
      | (refine wpAny_ite_true (decide_eq_true (by rw [c2])) ?_; wp_walk using wpAny_loadPart' hl)
      | (refine wpAny_ite_false (decide_eq_false hsz) ?_; wp_walk using wpAny_loadPart' hl))
    exact ⟨_, rfl, h⟩
section
variable {X : Cx}
/-- a one-item tuple times an int up to 1000 -/
def rRep1 (K : PySem.W.Frag) : R2 := fun x y H Q => ∃ l k v, x = .ref l ∧ y = .int k ∧ SqT K H l [v] ∧ -(2 ^ 62) ≤ k ∧ k ≤ 1000 ∧ (k = 1 → Q (.ref l) H) ∧ (k ≠ 1 → ∀ p, H p = none → Q (.ref p) (upd H p (.tup (List.replicate k.toNat [v]).flatten)))
theorem op_rep1 : OpR X (binaryOp .Mult) (rRep1 X.K) := by
  intro pins s σ H x y v u Q I rx ry h
  obtain ⟨l, k, v1, rfl, rfl, hT, h0, hz, q1, q2⟩ := h
  by_cases hk2 : 2 ≤ k
  · exact op_repT pins s σ H _ _ v u Q I rx ry ⟨l, k, [v1], rfl, rfl, hT, by simp, hk2, hz, by simp, q2 (by omega)⟩
  cases rx
  obtain ⟨t, rfl⟩ := ry
  obtain ⟨its, r, ⟨⟨cls, dd, data, sl⟩, ho, hc, n, hd⟩, hs⟩ := I.tuple hT
  simp only at hc hd
  subst hc hd
  by_cases h1 : k = 1
  · subst h1
    exact wpAny_binaryOp_repeat_ref (T := "tuple") (U := "int") (by decide) ⟨_, ho, rfl⟩ (fun s' => typeIs_int s' 1 t) noFill_tuple_mul F.fills_int_mul F.slot_int_rmul repeat_tuple F.slot_int_index.lookup
      (call_meets F.slot_int_rmul (typeIs_int s 1 t) F.entry_int_rmul (F.args_int_rmul_2 _ _) (int_rmul_tuple 1 t l its.toArray n dd sl)
        ⟨ho, rfl, ⟨_, ho, rfl⟩, call_meets F.slot_tuple_mul ⟨_, ho, rfl⟩ F.entry_tuple_mul (F.args_tuple_mul_2 _ _) (tuple_mul1 l its.toArray n dd sl t) ⟨ho, ⟨.ref l, H, I.tok _, rfl, q1 rfl⟩⟩⟩)
  · have hle : its.length = 1 := r.length.symm
    have hi : its.toArray.isEmpty = false := by
      cases its with
      | nil => cases hle
      | cons a b => rfl
    have c0 : (decide (k < -(2 ^ 63)) || decide (k ≥ 2 ^ 63)) = false := by
      rw [decide_eq_false (by omega), decide_eq_false (by omega)] <;> rfl
    have c1 : (its.toArray.isEmpty || k == 1) = false := by
      rw [hi, Bool.false_or]
      exact beq_eq_false_iff_ne.mpr h1
    have c2 : (decide (k ≤ 0) || its.toArray.isEmpty) = true := by
      rw [decide_eq_true (by omega)]; rfl
    refine wpAny_binaryOp_repeat_ref (T := "tuple") (U := "int") (by decide) ⟨_, ho, rfl⟩ (fun s' => typeIs_int s' k t) noFill_tuple_mul F.fills_int_mul F.slot_int_rmul repeat_tuple F.slot_int_index.lookup
      (call_meets F.slot_int_rmul (typeIs_int s k t) F.entry_int_rmul (F.args_int_rmul_2 _ _) (int_rmul_tuple k t l its.toArray n dd sl)
        ⟨ho, rfl, ⟨_, ho, rfl⟩, call_meets F.slot_tuple_mul ⟨_, ho, rfl⟩ F.entry_tuple_mul (F.args_tuple_mul_2 _ _) (tuple_mul0 l its.toArray n dd sl k t c0 c1 c2) ⟨ho, ?_⟩⟩)
    have e : k.toNat = 0 := by omega
    have q := q2 h1 s.heap.objs.size (I.hok.fresh (Nat.le_refl _))
    rw [e] at q
    exact ⟨.ref s.heap.objs.size, _, I.laid (t' := s.toks) (o := .tup []) (fun b ob q => Heap.get?_push_of_some _ q) (Nat.le_refl _) ⟨Nat.zero_le _, [], .nil, PyProof.Rows.IsTup.new _ _⟩, rfl, q⟩
/-- x in, not in a list or a tuple of data -/
def rInA (K : PySem.W.Frag) (neg : Bool) : R2 := fun x y H Q => ∃ d ds, Dp K H x d ∧ (Dp K H y (.list ds) ∨ Dp K H y (.tuple ds)) ∧ SeqAt.shaped d = true ∧ SeqAt.shaped (.list ds) = true ∧ Q (.bl (neg ^^ ds.any fun z => PyData.eqv z d)) H
end

mutual
def toP : D → PyData
  | .non => .none
  | .bl b => .bool b
  | .int i => .int i
  | .str s => .str s
  | .tup xs => .tuple (toPs xs)
  | .lst xs => .list (toPs xs)
  | .ref _ => .none
  | .fn _ => .none
  | .lok _ => .none
def toPs : List D → List PyData
  | [] => []
  | x :: xs => toP x :: toPs xs
end
section
variable {K : PySem.W.Frag} {fa : Nat → Addr} {φ hid : List Addr} {H : Hp} {st : Store}
mutual
theorem Rep.dp : ∀ {n : Nat} {d : D} {v : V}, okD n d = true → Rep K fa φ hid H d v → Dp K H v (toP d)
  | _, _, _, _, .non => .non
  | _, _, _, _, .bl b => .bl b
  | _, _, _, _, .int i => .int i
  | _, _, _, _, .str s => .str s
  | 0, _, _, h, .tup t r => nomatch h
  | n + 1, _, _, h, .tup t r => .tup t.sq (Reps.dp (n := n) h r)
  | 0, _, _, h, .lst t _ _ r => nomatch h
  | n + 1, _, _, h, .lst t _ _ r => .lst (.inl (.inl t)) (Reps.dp (n := n) h r)
  | 0, _, _, h, .ref _ => nomatch h
  | _ + 1, _, _, h, .ref _ => nomatch h
  | 0, _, _, h, .fn _ => nomatch h
  | _ + 1, _, _, h, .fn _ => nomatch h
  | 0, _, _, h, .lok _ _ => nomatch h
  | _ + 1, _, _, h, .lok _ _ => nomatch h
theorem Reps.dp : ∀ {n : Nat} {d : List D} {v : List V}, okDs n d = true → Reps K fa φ hid H d v → DpAll K H v (toPs d)
  | _, _, _, _, .nil => .nil
  | n, x :: xs, _, h, .cons r t => by
    have h' : (okD n x && okDs n xs) = true := h
    rw [Bool.and_eq_true] at h'
    exact .cons (Rep.dp h'.1 r) (Reps.dp h'.2 t)
end
mutual
theorem lay_of : ∀ (n : Nat) (d : D), okD n d = true → (toP d).canLay0 = true ∧ (toP d).depth ≤ n + 1
  | _, .non, _ => ⟨rfl, by simp [toP, PyData.depth]⟩
  | _, .bl _, _ => ⟨rfl, by simp [toP, PyData.depth]⟩
  | _, .int _, _ => ⟨rfl, by simp [toP, PyData.depth]⟩
  | _, .str _, h => ⟨h, by simp [toP, PyData.depth]⟩
  | 0, .tup _, h => nomatch h
  | n + 1, .tup xs, h => by
    have q := lays_of n xs h
    exact ⟨q.1, by simp only [toP, PyData.depth]; omega⟩
  | 0, .lst _, h => nomatch h
  | n + 1, .lst xs, h => by
    have q := lays_of n xs h
    exact ⟨q.1, by simp only [toP, PyData.depth]; omega⟩
  | 0, .ref _, h => nomatch h
  | _ + 1, .ref _, h => nomatch h
  | 0, .fn _, h => nomatch h
  | _ + 1, .fn _, h => nomatch h
  | 0, .lok _, h => nomatch h
  | _ + 1, .lok _, h => nomatch h
theorem lays_of : ∀ (n : Nat) (d : List D), okDs n d = true → PyData.canLayAll0 (toPs d) = true ∧ PyData.depthAll (toPs d) ≤ n + 1
  | _, [], _ => ⟨rfl, by simp [toPs, PyData.depthAll]⟩
  | n, x :: xs, h => by
    have h' : (okD n x && okDs n xs) = true := h
    rw [Bool.and_eq_true] at h'
    have q1 := lay_of n x h'.1
    have q2 := lays_of n xs h'.2
    refine ⟨?_, ?_⟩
    · show ((toP x).canLay0 && PyData.canLayAll0 (toPs xs)) = true
      rw [q1.1, q2.1]; rfl
    · simp only [toPs, PyData.depthAll]; omega
end
end

mutual
theorem eqv_of : ∀ (n m : Nat) (a b : D), okD n a = true → okD m b = true → PyData.eqv (toP a) (toP b) = eqv a b
  | _, _, .non, .non, _, _ => rfl
  | _, _, .non, .bl _, _, _ => rfl
  | _, _, .non, .int _, _, _ => rfl
  | _, _, .non, .str _, _, _ => rfl
  | _, _, .non, .tup _, _, _ => rfl
  | _, _, .non, .lst _, _, _ => rfl
  | _, _, .bl _, .non, _, _ => rfl
  | _, _, .bl _, .bl _, _, _ => rfl
  | _, _, .bl _, .int _, _, _ => rfl
  | _, _, .bl _, .str _, _, _ => rfl
  | _, _, .bl _, .tup _, _, _ => rfl
  | _, _, .bl _, .lst _, _, _ => rfl
  | _, _, .int _, .non, _, _ => rfl
  | _, _, .int _, .bl _, _, _ => rfl
  | _, _, .int _, .int _, _, _ => rfl
  | _, _, .int _, .str _, _, _ => rfl
  | _, _, .int _, .tup _, _, _ => rfl
  | _, _, .int _, .lst _, _, _ => rfl
  | _, _, .str _, .non, _, _ => rfl
  | _, _, .str _, .bl _, _, _ => rfl
  | _, _, .str _, .int _, _, _ => rfl
  | _, _, .str _, .str _, _, _ => rfl
  | _, _, .str _, .tup _, _, _ => rfl
  | _, _, .str _, .lst _, _, _ => rfl
  | _, _, .tup _, .non, _, _ => rfl
  | _, _, .tup _, .bl _, _, _ => rfl
  | _, _, .tup _, .int _, _, _ => rfl
  | _, _, .tup _, .str _, _, _ => rfl
  | _, _, .tup _, .lst _, _, _ => rfl
  | 0, _, .tup _, .tup _, h, _ => nomatch h
  | n + 1, 0, .tup _, .tup _, _, h => nomatch h
  | n + 1, m + 1, .tup xs, .tup ys, h, h' => eqvs_of n m xs ys h h'
  | _, _, .lst _, .non, _, _ => rfl
  | _, _, .lst _, .bl _, _, _ => rfl
  | _, _, .lst _, .int _, _, _ => rfl
  | _, _, .lst _, .str _, _, _ => rfl
  | _, _, .lst _, .tup _, _, _ => rfl
  | 0, _, .lst _, .lst _, h, _ => nomatch h
  | n + 1, 0, .lst _, .lst _, _, h => nomatch h
  | n + 1, m + 1, .lst xs, .lst ys, h, h' => eqvs_of n m xs ys h h'
  | 0, _, .ref _, _, h, _ => nomatch h
  | _ + 1, _, .ref _, _, h, _ => nomatch h
  | 0, _, .fn _, _, h, _ => nomatch h
  | _ + 1, _, .fn _, _, h, _ => nomatch h
  | _, 0, _, .ref _, _, h => nomatch h
  | _, _ + 1, _, .ref _, _, h => nomatch h
  | _, 0, _, .fn _, _, h => nomatch h
  | _, _ + 1, _, .fn _, _, h => nomatch h
  | 0, _, .lok _, _, h, _ => nomatch h
  | _ + 1, _, .lok _, _, h, _ => nomatch h
  | _, 0, _, .lok _, _, h => nomatch h
  | _, _ + 1, _, .lok _, _, h => nomatch h
theorem eqvs_of : ∀ (n m : Nat) (a b : List D), okDs n a = true → okDs m b = true → PyData.eqvAll (toPs a) (toPs b) = eqvs a b
  | _, _, [], [], _, _ => rfl
  | n, m, x :: xs, y :: ys, h, h' => by
    have h1 : (okD n x && okDs n xs) = true := h
    have h2 : (okD m y && okDs m ys) = true := h'
    rw [Bool.and_eq_true] at h1 h2
    show (PyData.eqv (toP x) (toP y) && PyData.eqvAll (toPs xs) (toPs ys)) = (eqv x y && eqvs xs ys)
    rw [eqv_of n m x y h1.1 h2.1, eqvs_of n m xs ys h1.2 h2.2]
  | _, _, [], _ :: _, _, _ => rfl
  | _, _, _ :: _, [], _, _ => rfl
end
theorem shaped_of {n : Nat} {d : D} (h : okD n d = true) (hn : n ≤ 63) : SeqAt.shaped (toP d) = true := by
  have q := lay_of n d h
  show ((toP d).canLay0 && decide ((toP d).depth ≤ 64)) = true
  rw [q.1, decide_eq_true (by omega)]; rfl

section
variable {K : PySem.W.Frag} {fa : Nat → Addr} {φ hid : List Addr} {H : Hp} {st : Store} {d : D} {x : V} {xs : List D}
theorem lst_at (s : StoreOk K fa st φ hid H) (r : Rep K fa φ hid H d x) (h : lstOf st d = some xs) : ∃ a vs, x = .ref a ∧ H a = some (.lst vs) ∧ Reps K fa φ hid H xs vs := by
  cases r with
  | lst t n m rs => cases h; exact ⟨_, _, rfl, t, rs⟩
  | ref hn =>
    rename_i n a
    have h' : (match st[n]? with | some (.lst xs) => some xs | none => none) = some xs := h
    cases q : st[n]? with
    | none => rw [q] at h'; cases h'
    | some c =>
      cases c with
      | lst ys =>
        rw [q] at h'; cases h'
        obtain ⟨b, vs, h1, h2, h3⟩ := s.cell n _ q
        rw [hn] at h1; cases h1
        exact ⟨_, _, rfl, h2, h3⟩
  | _ => cases h
theorem seq_at (s : StoreOk K fa st φ hid H) (r : Rep K fa φ hid H d x) (h : seqOf st d = some xs) : ∃ a vs, x = .ref a ∧ (SqL K H a vs ∨ SqT K H a vs) ∧ Reps K fa φ hid H xs vs := by
  cases r with
  | tup t rs => cases h; exact ⟨_, _, rfl, .inr t.sq, rs⟩
  | lst t n m rs =>
    obtain ⟨a, vs, e, q, z⟩ := lst_at s (.lst t n m rs) h
    exact ⟨a, vs, e, .inl (.inl (.inl q)), z⟩
  | ref hn =>
    obtain ⟨a, vs, e, q, z⟩ := lst_at s (.ref hn) h
    exact ⟨a, vs, e, .inl (.inl (.inl q)), z⟩
  | _ => cases h
end

section
variable (eo : Nat → Option (Value × Option Str)) (K : PySem.W.Frag) (fa : Nat → Addr)
/-- what follows a value -/
def CE (hid : List Addr) (Q : VK) : D → Store → List Addr → Hp → Prop := fun r _ φ' H' => ∀ v, Rep K fa φ' hid H' r v → Q v H'
def rV (ev : D → D → M D) : R2 := fun x y H Q => ∃ φ hid st d e W σ, StoreOk K fa st φ hid H ∧ Rep K fa φ hid H d x ∧ Rep K fa φ hid H e y ∧ Wn eo K fa W σ φ hid H (ev d e st) (CE K fa hid Q)
def rV1 (ev : D → M D) : V → Hp → VK → Prop := fun x H Q => ∃ φ hid st d W σ, StoreOk K fa st φ hid H ∧ Rep K fa φ hid H d x ∧ Wn eo K fa W σ φ hid H (ev d st) (CE K fa hid Q)
/-- a built-in of so many arguments -/
def rVs (ev : List D → M D) : List V → Hp → VK → Prop := fun xs H Q => ∃ φ hid st ds W σ, StoreOk K fa st φ hid H ∧ Reps K fa φ hid H ds xs ∧ Wn eo K fa W σ φ hid H (ev ds st) (CE K fa hid Q)
end
section
variable {eo : Nat → Option (Value × Option Str)} {K : PySem.W.Frag} {fa : Nat → Addr} {φ hid : List Addr} {H : Hp} {st : Store} {W : WX} {σ : L2.St} {Q : VK}
theorem Wn.mk (s : StoreOk K fa st φ hid H) {c : Bool} {xs : List D} {vs : List V} (r : Reps K fa φ hid H xs vs) (h : Wn eo K fa W σ φ hid H (mkL c xs st) (CE K fa hid Q)) : ∀ p, H p = none → Q (.ref p) (upd H p (.lst vs)) := fun p hp => by
  cases c with
  | true => exact h _ _ (.cell hp) (s.newCell hp r) _ (.newCell s)
  | false => exact h _ _ (.new hp) (s.new hp) _ (.newLst s hp r)
theorem Wn.tup (s : StoreOk K fa st φ hid H) {xs : List D} {vs : List V} (r : Reps K fa φ hid H xs vs) (h : Wn eo K fa W σ φ hid H (.ok (.tup xs) st) (CE K fa hid Q)) : ∀ p, H p = none → Q (.ref p) (upd H p (.tup vs)) := fun p hp =>
  h _ _ (.new hp) (s.new hp) _ (.newTup s hp r)
theorem Wn.val (s : StoreOk K fa st φ hid H) {d : D} {v : V} (r : Rep K fa φ hid H d v) (h : Wn eo K fa W σ φ hid H (.ok d st) (CE K fa hid Q)) : Q v H := h _ _ .refl s _ r
theorem fits_of {n : Nat} (h : fits n = true) : n ≤ sizeLine := by rw [sizeLine_eq]; exact of_decide_eq_true h
theorem wn_if {α : Type} {b : Bool} {r : Res α} {C : α → Store → List Addr → Hp → Prop} (h : Wn eo K fa W σ φ hid H (if b = true then r else .stuck) C) : b = true ∧ Wn eo K fa W σ φ hid H r C := by
  cases b with
  | true => exact ⟨rfl, h⟩
  | false => exact h.elim
end
section
variable {X : Cx} {eo : Nat → Option (Value × Option Str)} {fa : Nat → Addr}
theorem addD {c : Bool} : OpR X (binaryOp .Add) (rV eo X.K fa (addV c)) := by
  intro pins s σ H x y v u Q I rx ry h
  obtain ⟨φ, hid, st, d, e, W, σ', S, r1, r2, w⟩ := h
  have lists : ∀ {xs ys : List D}, lstOf st d = some xs → lstOf st e = some ys → Wn eo X.K fa W σ' φ hid H (if fits (xs.length + ys.length) = true then mkL c (xs ++ ys) st else .stuck) (CE X.K fa hid Q) →
      wpAny (model X.prog X.w) X.A (binaryOp .Add v u) (EP X pins σ Q) X.xe s := fun {xs ys} h1 h2 w => by
    obtain ⟨a, vs, rfl, t1, q1⟩ := lst_at S r1 h1
    obtain ⟨b, ws, rfl, t2, q2⟩ := lst_at S r2 h2
    obtain ⟨hf, w⟩ := wn_if w
    exact op_cat pins s σ H _ _ v u Q I rx ry ⟨a, b, vs, ws, rfl, rfl, t1, t2, by rw [q1.length, q2.length]; exact fits_of hf, Wn.mk S (q1.append q2) w⟩
  have gen : Wn eo X.K fa W σ' φ hid H (match lstOf st d, lstOf st e with
      | some xs, some ys => if fits (xs.length + ys.length) then mkL c (xs ++ ys) st else .stuck
      | _, _ => .stuck) (CE X.K fa hid Q) → wpAny (model X.prog X.w) X.A (binaryOp .Add v u) (EP X pins σ Q) X.xe s := fun w => by
    cases q1 : lstOf st d with
    | none => rw [q1] at w; exact w.elim
    | some xs =>
      cases q2 : lstOf st e with
      | none => rw [q1, q2] at w; exact w.elim
      | some ys => rw [q1, q2] at w; exact lists q1 q2 w
  cases r1 with
  | non => exact gen w
  | bl b => exact gen w
  | fn i => exact gen w
  | lst t n m rs => exact gen w
  | lok t rs => exact gen w
  | ref hn => exact gen w
  | int i =>
    cases r2 with
    | int j => exact op_add pins s σ H _ _ v u Q I rx ry ⟨i, j, rfl, rfl, Wn.val S (.int _) w⟩
    | _ => exact gen w
  | str z =>
    cases r2 with
    | str z2 =>
      have w' : Wn eo X.K fa W σ' φ hid H (if fits (z.length + z2.length) = true then .ok (.str (z ++ z2)) st else .stuck) (CE X.K fa hid Q) := w
      obtain ⟨hf, w'⟩ := wn_if w'
      exact op_add_str pins s σ H _ _ v u Q I rx ry ⟨z, z2, rfl, rfl, fits_of hf, Wn.val S (.str _) w'⟩
    | _ => exact gen w
  | tup t rs =>
    cases r2 with
    | tup t2 rs2 =>
      rename_i xs vs a ys ws b
      have w' : Wn eo X.K fa W σ' φ hid H (if fits (xs.length + ys.length) = true then .ok (.tup (xs ++ ys)) st else .stuck) (CE X.K fa hid Q) := w
      obtain ⟨hf, w'⟩ := wn_if w'
      refine op_catA pins s σ H _ _ v u Q I rx ry ⟨a, b, vs, ws, rfl, rfl, t.sq, t2.sq, by rw [rs.length, rs2.length]; exact fits_of hf, fun e => ?_, fun _ e => ?_, fun _ _ => Wn.tup S (rs.append rs2) w'⟩
      · subst e
        cases rs
        exact Wn.val S (.tup t2 rs2) w'
      · subst e
        cases rs2
        rw [List.append_nil] at w'
        exact Wn.val S (.tup t rs) w'
    | _ => exact gen w
theorem mulOk_of {i j : Int} (h : mulOk i j = true) : IntMulOk i j := by
  intro z
  unfold mulOk at h
  rw [z] at h
  cases h
theorem small_of {i : Int} (h : small i = true) : -(2 ^ 62) ≤ i ∧ i < 2 ^ 62 := by
  unfold small at h
  rw [Bool.and_eq_true] at h
  exact ⟨of_decide_eq_true h.1, of_decide_eq_true h.2⟩
theorem op_mulA : OpR X (binaryOp .Mult) (rI (fun i j => IntMulOk i j) fun i j => .int (i * j)) := opI fun _ _ _ _ _ _ _ hc q => PyProof.Rows.mul_int q hc
theorem rep_len {α : Type} (xs : List α) (n : Nat) : (List.replicate n xs).flatten.length = n * xs.length := by
  induction n with
  | zero => simp
  | succ n ih => rw [List.replicate_succ, List.flatten_cons, List.length_append, ih, Nat.succ_mul, Nat.add_comm]
theorem mulD {c : Bool} : OpR X (binaryOp .Mult) (rV eo X.K fa (mulV c)) := by
  intro pins s σ H x y v u Q I rx ry h
  obtain ⟨φ, hid, st, d, e, W, σ', S, r1, r2, w⟩ := h
  cases r2 with
  | int k =>
    have gen : Wn eo X.K fa W σ' φ hid H (match lstOf st d with
        | some xs => if small k && fits (xs.length * k.toNat) then mkL c (List.replicate k.toNat xs).flatten st else .stuck
        | none => .stuck) (CE X.K fa hid Q) → wpAny (model X.prog X.w) X.A (binaryOp .Mult v u) (EP X pins σ Q) X.xe s := fun w => by
      cases q1 : lstOf st d with
      | none => rw [q1] at w; exact w.elim
      | some xs =>
        rw [q1] at w
        obtain ⟨a, vs, rfl, t1, z1⟩ := lst_at S r1 q1
        obtain ⟨hf, w⟩ := wn_if w
        rw [Bool.and_eq_true] at hf
        have hs := small_of hf.1
        exact op_rep pins s σ H _ _ v u Q I rx ry ⟨a, k, vs, rfl, rfl, t1, by omega, by omega, by rw [z1.length]; exact fits_of hf.2, Wn.mk S (z1.rep _) w⟩
    cases r1 with
    | int i =>
      have w' : Wn eo X.K fa W σ' φ hid H (if mulOk i k = true then .ok (.int (i * k)) st else .stuck) (CE X.K fa hid Q) := w
      obtain ⟨hf, w'⟩ := wn_if w'
      exact op_mulA pins s σ H _ _ v u Q I rx ry ⟨i, k, rfl, rfl, mulOk_of hf, Wn.val S (.int _) w'⟩
    | tup t rs =>
      rename_i xs vs a
      have w' : Wn eo X.K fa W σ' φ hid H (if (decide (k ≤ 1000) && small k && decide (xs.length = 1)) = true then .ok (.tup (List.replicate k.toNat xs).flatten) st else .stuck) (CE X.K fa hid Q) := w
      obtain ⟨hf, w'⟩ := wn_if w'
      rw [Bool.and_eq_true, Bool.and_eq_true] at hf
      have hs := small_of hf.1.2
      have hl := of_decide_eq_true hf.2
      have hv := rs.length
      obtain ⟨y1, rfl⟩ : ∃ y1, vs = [y1] := List.length_eq_one_iff.mp (by omega)
      refine op_rep1 pins s σ H _ _ v u Q I rx ry ⟨a, k, y1, rfl, rfl, t.sq, hs.1, of_decide_eq_true hf.1.1, fun e => ?_, fun _ => Wn.tup S (rs.rep _) w'⟩
      subst e
      have e1 : (List.replicate (1 : Int).toNat xs).flatten = xs := by simp
      rw [e1] at w'
      exact Wn.val S (.tup t rs) w'
    | _ => exact gen w
  | _ => cases r1 <;> exact w.elim
end
end PC
set_option Elab.async false
set_option linter.all false
set_option maxRecDepth 100000
set_option maxHeartbeats 4000000
namespace PC
open PySem PySem.Spec L2
section
variable {eo : Nat → Option (Value × Option Str)} {K : PySem.W.Frag} {fa : Nat → Addr} {φ hid : List Addr} {H : Hp} {st : Store} {W : WX} {σ : L2.St} {Q : VK}
/-- an operation of two ints -/
theorem int_at {f : Int → Int → D} {ok : Int → Int → Bool} {d e : D} {x y : V} (r1 : Rep K fa φ hid H d x) (r2 : Rep K fa φ hid H e y) (w : Wn eo K fa W σ φ hid H (intOp f ok d e st) (CE K fa hid Q)) :
    ∃ i j, x = .int i ∧ y = .int j ∧ ok i j = true ∧ Wn eo K fa W σ φ hid H (.ok (f i j) st) (CE K fa hid Q) := by
  cases r1 with
  | int i =>
    cases r2 with
    | int j =>
      obtain ⟨h, w⟩ := wn_if (b := ok i j) w
      exact ⟨i, j, rfl, rfl, h, w⟩
    | _ => exact w.elim
  | _ => exact w.elim
end
section
variable {X : Cx} {eo : Nat → Option (Value × Option Str)} {fa : Nat → Addr}
theorem subD : OpR X (binaryOp .Sub) (rV eo X.K fa (intOp (fun i j => .int (i - j)) (fun _ _ => true))) := by
  intro pins s σ H x y v u Q I rx ry ⟨φ, hid, st, d, e, W, σ', S, r1, r2, w⟩
  obtain ⟨i, j, rfl, rfl, _, w⟩ := int_at r1 r2 w
  exact op_sub pins s σ H _ _ v u Q I rx ry ⟨i, j, rfl, rfl, Wn.val S (.int _) w⟩
theorem op_fdivA : OpR X (binaryOp .FloorDiv) (rI (fun _ j => j ≠ 0 ∧ j.natAbs.log2 < 9000) fun i j => .int (i.fdiv j)) := opI fun _ _ _ _ _ _ _ hc q => PyProof.Rows.floordiv_int hc.1 q (.inl (PyProof.noPylong_of_log2 hc.2))
theorem divOk_of {j : Int} (h : divOk j = true) : j ≠ 0 ∧ j.natAbs.log2 < 9000 := by
  unfold divOk at h
  rw [Bool.and_eq_true] at h
  exact ⟨of_decide_eq_true h.1, of_decide_eq_true h.2⟩
theorem fdivD : OpR X (binaryOp .FloorDiv) (rV eo X.K fa (intOp (fun i j => .int (i.fdiv j)) (fun _ j => divOk j))) := by
  intro pins s σ H x y v u Q I rx ry ⟨φ, hid, st, d, e, W, σ', S, r1, r2, w⟩
  obtain ⟨i, j, rfl, rfl, h, w⟩ := int_at r1 r2 w
  exact op_fdivA pins s σ H _ _ v u Q I rx ry ⟨i, j, rfl, rfl, divOk_of h, Wn.val S (.int _) w⟩
theorem modD : OpR X (binaryOp .Mod) (rV eo X.K fa (intOp (fun i j => .int (i.fmod j)) (fun _ j => decide (j ≠ 0)))) := by
  intro pins s σ H x y v u Q I rx ry ⟨φ, hid, st, d, e, W, σ', S, r1, r2, w⟩
  obtain ⟨i, j, rfl, rfl, h, w⟩ := int_at r1 r2 w
  exact op_modN pins s σ H _ _ v u Q I rx ry ⟨i, j, rfl, rfl, of_decide_eq_true h, Wn.val S (.int _) w⟩
theorem ltD : OpR X (compareOp .Lt) (rV eo X.K fa (intOp (fun i j => .bl (decide (i < j))) (fun _ _ => true))) := by
  intro pins s σ H x y v u Q I rx ry ⟨φ, hid, st, d, e, W, σ', S, r1, r2, w⟩
  obtain ⟨i, j, rfl, rfl, _, w⟩ := int_at r1 r2 w
  exact op_lt pins s σ H _ _ v u Q I rx ry ⟨i, j, rfl, rfl, Wn.val S (.bl _) w⟩
theorem leD : OpR X (compareOp .LtE) (rV eo X.K fa (intOp (fun i j => .bl (decide (i ≤ j))) (fun _ _ => true))) := by
  intro pins s σ H x y v u Q I rx ry ⟨φ, hid, st, d, e, W, σ', S, r1, r2, w⟩
  obtain ⟨i, j, rfl, rfl, _, w⟩ := int_at r1 r2 w
  exact op_le pins s σ H _ _ v u Q I rx ry ⟨i, j, rfl, rfl, Wn.val S (.bl _) w⟩
theorem gtD : OpR X (compareOp .Gt) (rV eo X.K fa (intOp (fun i j => .bl (decide (j < i))) (fun _ _ => true))) := by
  intro pins s σ H x y v u Q I rx ry ⟨φ, hid, st, d, e, W, σ', S, r1, r2, w⟩
  obtain ⟨i, j, rfl, rfl, _, w⟩ := int_at r1 r2 w
  exact op_gt pins s σ H _ _ v u Q I rx ry ⟨i, j, rfl, rfl, Wn.val S (.bl _) w⟩
theorem geD : OpR X (compareOp .GtE) (rV eo X.K fa (intOp (fun i j => .bl (decide (j ≤ i))) (fun _ _ => true))) := by
  intro pins s σ H x y v u Q I rx ry ⟨φ, hid, st, d, e, W, σ', S, r1, r2, w⟩
  obtain ⟨i, j, rfl, rfl, _, w⟩ := int_at r1 r2 w
  exact op_ge pins s σ H _ _ v u Q I rx ry ⟨i, j, rfl, rfl, Wn.val S (.bl _) w⟩
theorem eqD (hu : X.A.units + 64 < cLine) : OpR X (compareOp .Eq) (rV eo X.K fa eqV) := by
  intro pins s σ H x y v u Q I rx ry ⟨φ, hid, st, d, e, W, σ', S, r1, r2, w⟩
  obtain ⟨h, w⟩ := wn_if (b := okD 60 d && okD 60 e) w
  rw [Bool.and_eq_true] at h
  refine op_eqD hu pins s σ H _ _ v u Q I rx ry ⟨toP d, toP e, r1.dp h.1, r2.dp h.2, shaped_of h.1 (by decide), shaped_of h.2 (by decide), ?_⟩
  rw [eqv_of 60 60 d e h.1 h.2]
  exact Wn.val S (.bl _) w
theorem neD (hu : X.A.units + 64 < cLine) : OpR X (compareOp .NotEq) (rV eo X.K fa neV) := by
  intro pins s σ H x y v u Q I rx ry ⟨φ, hid, st, d, e, W, σ', S, r1, r2, w⟩
  obtain ⟨h, w⟩ := wn_if (b := okD 60 d && okD 60 e) w
  rw [Bool.and_eq_true] at h
  refine op_neD hu pins s σ H _ _ v u Q I rx ry ⟨toP d, toP e, r1.dp h.1, r2.dp h.2, shaped_of h.1 (by decide), shaped_of h.2 (by decide), ?_⟩
  rw [eqv_of 60 60 d e h.1 h.2]
  exact Wn.val S (.bl _) w
theorem any_toP {n m : Nat} {d : D} (hd : okD n d = true) : ∀ {xs : List D}, okDs m xs = true → (toPs xs).any (fun z => PyData.eqv z (toP d)) = xs.any (fun z => eqv z d)
  | [], _ => rfl
  | x :: xs, h => by
    have h' : (okD m x && okDs m xs) = true := h
    rw [Bool.and_eq_true] at h'
    show (PyData.eqv (toP x) (toP d) || _) = (eqv x d || _)
    rw [eqv_of m n x d h'.1 hd, any_toP hd h'.2]
theorem dp_tup_lst {K : PySem.W.Frag} {H : Hp} {ds : List PyData} : SeqAt.shaped (.tuple ds) = SeqAt.shaped (.list ds) := rfl
theorem inD (hu : X.A.units + 65 < cLine) : OpR X (compareOp .In) (rV eo X.K fa (inV false)) := by
  intro pins s σ H x y v u Q I rx ry ⟨φ, hid, st, d, e, W, σ', S, r1, r2, w⟩
  have w' : Wn eo X.K fa W σ' φ hid H (match seqOf st e with
    | some xs => if okD 60 d && okDs 60 xs then .ok (.bl (false ^^ xs.any fun z => eqv z d)) st else .stuck
    | none => .stuck) (CE X.K fa hid Q) := w
  cases q : seqOf st e with
  | none => rw [q] at w'; exact w'.elim
  | some xs =>
    rw [q] at w'
    obtain ⟨h, w'⟩ := wn_if (b := okD 60 d && okDs 60 xs) w'
    rw [Bool.and_eq_true] at h
    have sl : SeqAt.shaped (.list (toPs xs)) = true := shaped_of (n := 61) (d := .lst xs) h.2 (by decide) |> fun z => z
    have sd := shaped_of h.1 (by decide)
    have fin : Q (.bl ((toPs xs).any fun z => PyData.eqv z (toP d))) H := by
      rw [any_toP h.1 h.2]
      have z := Wn.val S (.bl _) w'
      rwa [Bool.false_xor] at z
    obtain ⟨as, p1⟩ := Dp.reads I (toP d) x v (r1.dp h.1) rx
    obtain ⟨a, vs, rfl, t, rs⟩ := seq_at S r2 q
    cases ry
    have rd := PyProof.Rows.room_in_shaped (xs := toPs xs) sd hu
    rcases t with t | t
    · obtain ⟨bs, p2⟩ := Dp.reads I (.list (toPs xs)) (.ref a) (.ref a) (.lst t (rs.dp h.2)) rfl
      exact SeqAt.in_list_reads p2 p1 (SeqAt.canLay_of_shaped sl) (SeqAt.canLay_of_shaped sd) rd ⟨.bl _, H, I, rfl, fin⟩
    · obtain ⟨bs, p2⟩ := Dp.reads I (.tuple (toPs xs)) (.ref a) (.ref a) (.tup t (rs.dp h.2)) rfl
      exact SeqAt.in_tuple_reads p2 p1 (SeqAt.canLay_of_shaped sl) (SeqAt.canLay_of_shaped sd) rd ⟨.bl _, H, I, rfl, fin⟩
theorem ninD (hu : X.A.units + 65 < cLine) : OpR X (compareOp .NotIn) (rV eo X.K fa (inV true)) := by
  intro pins s σ H x y v u Q I rx ry ⟨φ, hid, st, d, e, W, σ', S, r1, r2, w⟩
  have w' : Wn eo X.K fa W σ' φ hid H (match seqOf st e with
    | some xs => if okD 60 d && okDs 60 xs then .ok (.bl (true ^^ xs.any fun z => eqv z d)) st else .stuck
    | none => .stuck) (CE X.K fa hid Q) := w
  cases q : seqOf st e with
  | none => rw [q] at w'; exact w'.elim
  | some xs =>
    rw [q] at w'
    obtain ⟨h, w'⟩ := wn_if (b := okD 60 d && okDs 60 xs) w'
    rw [Bool.and_eq_true] at h
    have sl : SeqAt.shaped (.list (toPs xs)) = true := shaped_of (n := 61) (d := .lst xs) h.2 (by decide) |> fun z => z
    have sd := shaped_of h.1 (by decide)
    have fin : Q (.bl (!(toPs xs).any fun z => PyData.eqv z (toP d))) H := by
      rw [any_toP h.1 h.2]
      have z := Wn.val S (.bl _) w'
      rwa [Bool.true_xor] at z
    obtain ⟨as, p1⟩ := Dp.reads I (toP d) x v (r1.dp h.1) rx
    obtain ⟨a, vs, rfl, t, rs⟩ := seq_at S r2 q
    cases ry
    have rd := PyProof.Rows.room_in_shaped (xs := toPs xs) sd hu
    rcases t with t | t
    · obtain ⟨bs, p2⟩ := Dp.reads I (.list (toPs xs)) (.ref a) (.ref a) (.lst t (rs.dp h.2)) rfl
      exact SeqAt.notIn_list_reads p2 p1 (SeqAt.canLay_of_shaped sl) (SeqAt.canLay_of_shaped sd) rd ⟨.bl _, H, I, rfl, fin⟩
    · obtain ⟨bs, p2⟩ := Dp.reads I (.tuple (toPs xs)) (.ref a) (.ref a) (.tup t (rs.dp h.2)) rfl
      exact SeqAt.notIn_tuple_reads p2 p1 (SeqAt.canLay_of_shaped sl) (SeqAt.canLay_of_shaped sd) rd ⟨.bl _, H, I, rfl, fin⟩
theorem idxD : IxR X (rV eo X.K fa idxV) := by
  intro value slice pins s σ H x y v u Q I rx ry ⟨φ, hid, st, d, e, W, σ', S, r1, r2, w⟩ hs
  cases r2 with
  | int k =>
    have w' : Wn eo X.K fa W σ' φ hid H (match seqOf st d with
      | some xs => match L2.atI xs k with
        | some x => .ok x st
        | none => .stuck
      | none => .stuck) (CE X.K fa hid Q) := w
    cases q : seqOf st d with
    | none => rw [q] at w'; exact w'.elim
    | some xs =>
      rw [q] at w'
      cases q2 : L2.atI xs k with
      | none => simp only [q2] at w'; exact w'.elim
      | some z =>
        simp only [q2] at w'
        obtain ⟨a, vs, rfl, t, rs⟩ := seq_at S r1 q
        obtain ⟨n, h1, h2⟩ := Option.bind_eq_some_iff.mp q2
        obtain ⟨zv, h3, h4⟩ := rs.get h2
        have at' : L2.atI vs k = some zv := by
          unfold L2.atI
          rw [rs.length, h1]
          exact h3
        have fin := Wn.val S h4 w'
        rcases t with t | t
        · exact ix_list value slice pins s σ H _ _ v u Q I rx ry ⟨a, vs, k, zv, rfl, rfl, t, at', fin⟩ hs
        · exact ix_tup value slice pins s σ H _ _ v u Q I rx ry ⟨a, vs, k, zv, rfl, rfl, t, at', fin⟩ hs
  | _ => exact w.elim
theorem cut_rep {K : PySem.W.Frag} {φ hid : List Addr} {H : Hp} {xs : List D} {vs : List V} (r : Reps K fa φ hid H xs vs) (lo hi : Option Int) : Reps K fa φ hid H (cut xs lo hi) (cutV vs lo hi) := by
  unfold cut cutV
  rw [r.length]
  exact (r.drop _).take _
theorem sliceD {c : Bool} : SlR X (fun x lo hi H Q => ∃ φ hid st d W σ, StoreOk X.K fa st φ hid H ∧ Rep X.K fa φ hid H d x ∧ Wn eo X.K fa W σ φ hid H (sliceV c d lo hi st) (CE X.K fa hid Q)) := by
  intro pins s σ H x v vl vu lo hi sl Q I rx hs pl pu ⟨φ, hid, st, d, W, σ', S, r1, w⟩
  have gen : ∀ {xs : List D} {a : Addr} {vs : List V}, x = .ref a → SqL X.K H a vs → Reps X.K fa φ hid H xs vs → Wn eo X.K fa W σ' φ hid H (mkL c (cut xs lo hi) st) (CE X.K fa hid Q) →
      ∃ T id, typeLookup (.type T) "__getitem__" = pure (some (.builtin id)) ∧ s.TypeIs v T ∧ wpAny (model X.prog X.w) X.A (getItem v (.ref sl)) (EP X pins σ Q) X.xe s := fun {xs a vs} e t rs w => by
    subst e
    exact sl_list pins s σ H _ v vl vu lo hi sl Q I rx hs pl pu ⟨a, vs, rfl, t, Wn.mk S (cut_rep rs lo hi) w⟩
  have gen2 : Wn eo X.K fa W σ' φ hid H (match lstOf st d with
      | some xs => mkL c (cut xs lo hi) st
      | none => .stuck) (CE X.K fa hid Q) →
      ∃ T id, typeLookup (.type T) "__getitem__" = pure (some (.builtin id)) ∧ s.TypeIs v T ∧ wpAny (model X.prog X.w) X.A (getItem v (.ref sl)) (EP X pins σ Q) X.xe s := fun w => by
    cases q : lstOf st d with
    | none => rw [q] at w; exact w.elim
    | some xs =>
      rw [q] at w
      obtain ⟨a, vs, e, t, rs⟩ := lst_at S r1 q
      exact gen e (.inl (.inl t)) rs w
  cases r1 with
  | tup t rs =>
    rename_i xs vs a
    have w' : Wn eo X.K fa W σ' φ hid H (.ok (.tup (cut xs lo hi)) st) (CE X.K fa hid Q) := w
    refine sl_tupA pins s σ H _ v vl vu lo hi sl Q I rx hs pl pu ⟨a, vs, rfl, t.sq, fun hw => ?_, fun _ => Wn.tup S (cut_rep rs lo hi) w'⟩
    have e : cut xs lo hi = xs := by
      rw [rs.length] at hw
      unfold cut
      rw [hw.1, hw.2]; simp
    rw [e] at w'
    exact Wn.val S (.tup t rs) w'
  | lok t rs => exact gen rfl t.sq rs w
  | _ => exact gen2 w
theorem negD : UnR X (unaryOp .USub) (fun x H Q => ∃ φ hid st d W σ, StoreOk X.K fa st φ hid H ∧ Rep X.K fa φ hid H d x ∧ Wn eo X.K fa W σ φ hid H (biV .neg [d] st) (CE X.K fa hid Q)) := by
  intro pins s σ H x v Q I rx ⟨φ, hid, st, d, W, σ', S, r1, w⟩
  cases r1 with
  | int i => exact un_neg pins s σ H _ v Q I rx ⟨i, rfl, Wn.val S (.int _) w⟩
  | _ => exact w.elim
theorem one_of {K : PySem.W.Frag} {φ hid : List Addr} {H : Hp} {d : D} {xs : List V} (r : Reps K fa φ hid H [d] xs) : ∃ x, xs = [x] ∧ Rep K fa φ hid H d x := by
  cases r with
  | cons h t => cases t; exact ⟨_, rfl, h⟩
theorem two_of {K : PySem.W.Frag} {φ hid : List Addr} {H : Hp} {d e : D} {xs : List V} (r : Reps K fa φ hid H [d, e] xs) : ∃ x y, xs = [x, y] ∧ Rep K fa φ hid H d x ∧ Rep K fa φ hid H e y := by
  cases r with
  | cons h t =>
    obtain ⟨y, rfl, h2⟩ := one_of t
    exact ⟨_, y, rfl, h, h2⟩
/-- a built-in's value where its arguments are one datum -/
def rB1 (eo : Nat → Option (Value × Option Str)) (K : PySem.W.Frag) (fa : Nat → Addr) (ev : D → M D) : List V → Hp → VK → Prop := fun xs H Q => ∃ φ hid st d W σ, StoreOk K fa st φ hid H ∧ Reps K fa φ hid H [d] xs ∧ Wn eo K fa W σ φ hid H (ev d st) (CE K fa hid Q)
def rB2 (eo : Nat → Option (Value × Option Str)) (K : PySem.W.Frag) (fa : Nat → Addr) (ev : D → D → M D) : List V → Hp → VK → Prop := fun xs H Q => ∃ φ hid st d e W σ, StoreOk K fa st φ hid H ∧ Reps K fa φ hid H [d, e] xs ∧ Wn eo K fa W σ φ hid H (ev d e st) (CE K fa hid Q)
theorem lenD : CallR X (.builtin "len") (rB1 eo X.K fa lenV) := by
  intro pins s σ H xs us Q I r ⟨φ, hid, st, d, W, σ', S, rs0, w⟩
  obtain ⟨x, rfl, r1⟩ := one_of rs0
  have gen : Wn eo X.K fa W σ' φ hid H (match seqOf st d with
      | some xs => .ok (.int xs.length) st
      | none => .stuck) (CE X.K fa hid Q) → wpAny (model X.prog X.w) X.A (call (.builtin "len") us) (EP X pins σ Q) X.xe s := fun w => by
    cases q : seqOf st d with
    | none => rw [q] at w; exact w.elim
    | some ys =>
      rw [q] at w
      obtain ⟨a, vs, rfl, t, rs⟩ := seq_at S r1 q
      have fin := Wn.val S (.int _) w
      rw [← rs.length] at fin
      exact call_len_seq pins s σ H _ us Q I r ⟨a, vs, rfl, t, fin⟩
  cases r1 with
  | str z =>
    obtain ⟨h, w'⟩ := wn_if (b := fits z.length) w
    exact call_len_str pins s σ H _ us Q I r ⟨z, rfl, fits_of h, Wn.val S (.int _) w'⟩
  | _ => exact gen w
theorem absD : CallR X (.builtin "abs") (rB1 eo X.K fa fun d => biV .abs [d]) := by
  intro pins s σ H xs us Q I r ⟨φ, hid, st, d, W, σ', S, rs0, w⟩
  obtain ⟨x, rfl, r1⟩ := one_of rs0
  cases r1 with
  | int i => exact call_abs pins s σ H _ us Q I r ⟨i, rfl, Wn.val S (.int _) w⟩
  | _ => exact w.elim
theorem intD : CallR X (.type "int") (rB1 eo X.K fa intV) := by
  intro pins s σ H xs us Q I r ⟨φ, hid, st, d, W, σ', S, rs0, w⟩
  obtain ⟨x, rfl, r1⟩ := one_of rs0
  cases r1 with
  | int i => exact call_int1 pins s σ H _ us Q I r (.inl ⟨i, rfl, Wn.val S (.int _) w⟩)
  | bl b => exact call_int1 pins s σ H _ us Q I r (.inr ⟨b, rfl, Wn.val S (.int _) w⟩)
  | _ => exact w.elim
theorem strD : CallR X (.type "str") (rB1 eo X.K fa strV) := by
  intro pins s σ H xs us Q I r ⟨φ, hid, st, d, W, σ', S, rs0, w⟩
  obtain ⟨x, rfl, r1⟩ := one_of rs0
  cases r1 with
  | int i =>
    obtain ⟨h, w'⟩ := wn_if (b := decide (i.natAbs.log2 < 1920)) w
    exact call_str_int pins s σ H _ us Q I r ⟨i, rfl, of_decide_eq_true h, Wn.val S (.str _) w'⟩
  | _ => exact w.elim
theorem maxD (hc : X.calm = true) : CallR X (.builtin "max") (rB2 eo X.K fa fun d e => biV .max [d, e]) := by
  intro pins s σ H xs us Q I r ⟨φ, hid, st, d, e, W, σ', S, rs0, w⟩
  obtain ⟨x, y, rfl, r1, r2⟩ := two_of rs0
  cases r1 with
  | int i =>
    cases r2 with
    | int j => exact call_max2 hc pins s σ H _ us Q I r ⟨i, j, rfl, Wn.val S (.int _) w⟩
    | _ => exact w.elim
  | _ => exact w.elim
theorem minD (hc : X.calm = true) : CallR X (.builtin "min") (rB2 eo X.K fa fun d e => biV .min [d, e]) := by
  intro pins s σ H xs us Q I r ⟨φ, hid, st, d, e, W, σ', S, rs0, w⟩
  obtain ⟨x, y, rfl, r1, r2⟩ := two_of rs0
  cases r1 with
  | int i =>
    cases r2 with
    | int j => exact call_min2 hc pins s σ H _ us Q I r ⟨i, j, rfl, Wn.val S (.int _) w⟩
    | _ => exact w.elim
  | _ => exact w.elim
theorem sumD (hc : X.calm = true) : CallR X (.builtin "sum") (rB1 eo X.K fa sumV) := by
  intro pins s σ H xs us Q I r ⟨φ, hid, st, d, W, σ', S, rs0, w⟩
  obtain ⟨x, rfl, r1⟩ := one_of rs0
  have w' : Wn eo X.K fa W σ' φ hid H (match (lstOf st d).bind allInts with
    | some ns => .ok (.int ns.sum) st
    | none => .stuck) (CE X.K fa hid Q) := w
  cases q : (lstOf st d).bind allInts with
  | none => rw [q] at w'; exact w'.elim
  | some ns =>
    rw [q] at w'
    obtain ⟨ys, h1, h2⟩ := Option.bind_eq_some_iff.mp q
    obtain ⟨a, vs, rfl, t, rs⟩ := lst_at S r1 h1
    have e := rs.ints h2
    subst e
    exact cr_sum hc pins s σ H _ us Q I r ⟨a, ns, rfl, .inl (.inl t), Wn.val S (.int _) w'⟩
theorem allD (hc : X.calm = true) : CallR X (.builtin "all") (rB1 eo X.K fa allV) := by
  intro pins s σ H xs us Q I r ⟨φ, hid, st, d, W, σ', S, rs0, w⟩
  obtain ⟨x, rfl, r1⟩ := one_of rs0
  have w' : Wn eo X.K fa W σ' φ hid H (match (lstOf st d).bind allBools with
    | some ns => .ok (.bl (ns.all id)) st
    | none => .stuck) (CE X.K fa hid Q) := w
  cases q : (lstOf st d).bind allBools with
  | none => rw [q] at w'; exact w'.elim
  | some ns =>
    rw [q] at w'
    obtain ⟨ys, h1, h2⟩ := Option.bind_eq_some_iff.mp q
    obtain ⟨a, vs, rfl, t, rs⟩ := lst_at S r1 h1
    have e := rs.bools h2
    subst e
    exact cr_all hc pins s σ H _ us Q I r ⟨a, ns, rfl, .inl (.inl t), Wn.val S (.bl _) w'⟩
theorem anyD (hc : X.calm = true) : CallR X (.builtin "any") (rB1 eo X.K fa anyV) := by
  intro pins s σ H xs us Q I r ⟨φ, hid, st, d, W, σ', S, rs0, w⟩
  obtain ⟨x, rfl, r1⟩ := one_of rs0
  have w' : Wn eo X.K fa W σ' φ hid H (match (lstOf st d).bind allBools with
    | some ns => .ok (.bl (ns.any id)) st
    | none => .stuck) (CE X.K fa hid Q) := w
  cases q : (lstOf st d).bind allBools with
  | none => rw [q] at w'; exact w'.elim
  | some ns =>
    rw [q] at w'
    obtain ⟨ys, h1, h2⟩ := Option.bind_eq_some_iff.mp q
    obtain ⟨a, vs, rfl, t, rs⟩ := lst_at S r1 h1
    have e := rs.bools h2
    subst e
    exact cr_any hc pins s σ H _ us Q I r ⟨a, ns, rfl, .inl (.inl t), Wn.val S (.bl _) w'⟩
theorem tupleD : CallR X (.type "tuple") (rB1 eo X.K fa tupleV) := by
  intro pins s σ H xs us Q I r ⟨φ, hid, st, d, W, σ', S, rs0, w⟩
  obtain ⟨x, rfl, r1⟩ := one_of rs0
  cases r1 with
  | tup t rs => exact call_tupleT pins s σ H _ us Q I r ⟨_, _, rfl, t.sq, Wn.val S (.tup t rs) w⟩
  | lst t n m rs => exact call_tuple_of pins s σ H _ us Q I r ⟨_, _, rfl, .inl ⟨.inl (.inl t), Wn.tup S rs w⟩⟩
  | @ref n a hn =>
    have w' : Wn eo X.K fa W σ' φ hid H (match seqOf st (.ref n) with
      | some xs => .ok (.tup xs) st
      | none => .stuck) (CE X.K fa hid Q) := w
    cases q : seqOf st (.ref n) with
    | none => rw [q] at w'; exact w'.elim
    | some ys =>
      rw [q] at w'
      obtain ⟨b, vs, e, t, rs⟩ := lst_at S (.ref hn) q
      cases e
      exact call_tuple_of pins s σ H _ us Q I r ⟨_, _, rfl, .inl ⟨.inl (.inl t), Wn.tup S rs w'⟩⟩
  | _ => exact w.elim
theorem listD {c : Bool} : CallR X (.type "list") (rB1 eo X.K fa (listV c)) := by
  intro pins s σ H xs us Q I r ⟨φ, hid, st, d, W, σ', S, rs0, w⟩
  obtain ⟨x, rfl, r1⟩ := one_of rs0
  have w' : Wn eo X.K fa W σ' φ hid H (match seqOf st d with
    | some xs => mkL c xs st
    | none => .stuck) (CE X.K fa hid Q) := w
  cases q : seqOf st d with
  | none => rw [q] at w'; exact w'.elim
  | some ys =>
    rw [q] at w'
    obtain ⟨a, vs, rfl, t, rs⟩ := seq_at S r1 q
    exact call_list_of pins s σ H _ us Q I r ⟨a, vs, rfl, t, Wn.mk S rs w'⟩
def rM (eo : Nat → Option (Value × Option Str)) (K : PySem.W.Frag) (fa : Nat → Addr) (ev : D → List D → M D) : V → List V → Hp → VK → Prop := fun x xs H Q => ∃ φ hid st d ds W σ, StoreOk K fa st φ hid H ∧ Rep K fa φ hid H d x ∧ Reps K fa φ hid H ds xs ∧ Wn eo K fa W σ φ hid H (ev d ds st) (CE K fa hid Q)
theorem appendD : MtR X "list.append" (rM eo X.K fa fun d ds => biV .append (d :: ds)) := by
  intro pins s σ H x xs v us Q I rx rxs ⟨φ, hid, st, d, ds, W, σ', S, r1, rs, w⟩
  match ds, rs, w with
  | [], _, w => exact w.elim
  | [e], rs, w =>
    obtain ⟨y, rfl, r2⟩ := one_of rs
    cases r1 with
    | @ref n a hn =>
      have w' : Wn eo X.K fa W σ' φ hid H (match st[n]? with
        | some (.lst xs) => if decide (xs.length < 16777216) then .ok .non (st.set n (.lst (xs ++ [e]))) else .stuck
        | none => .stuck) (CE X.K fa hid Q) := w
      cases q : st[n]? with
      | none => rw [q] at w'; exact w'.elim
      | some cl =>
        cases cl with
        | lst ys =>
          rw [q] at w'
          obtain ⟨h, w'⟩ := wn_if (b := decide (ys.length < 16777216)) w'
          have h := of_decide_eq_true h
          obtain ⟨b, vs, h1, h2, h3⟩ := S.cell n ys q
          rw [hn] at h1; cases h1
          refine mt_append pins s σ H _ _ v us Q I rx rxs ⟨a, vs, y, rfl, rfl, h2, by rw [h3.length, sizeLine_eq]; exact h, ?_⟩
          exact w' _ _ (.write hn) (S.write hn (h3.append (.cons r2 .nil))) _ .non
    | _ => exact w.elim
  | _ :: _ :: _, _, w => exact w.elim
def popM (d : D) : List D → M D
  | [] => biV .pop [d]
  | e :: r => biV .popAt (d :: e :: r)
theorem popD : MtR X "list.pop" (rM eo X.K fa popM) := by
  intro pins s σ H x xs v us Q I rx rxs ⟨φ, hid, st, d, ds, W, σ', S, r1, rs, w⟩
  match ds, rs, w with
  | [], rs, w =>
    cases rs
    cases r1 with
    | @ref n a hn =>
      have w' : Wn eo X.K fa W σ' φ hid H (match st[n]? with
        | some (.lst xs) => match xs[xs.length - 1]? with
          | some y => .ok y (st.set n (.lst xs.dropLast))
          | none => .stuck
        | none => .stuck) (CE X.K fa hid Q) := w
      cases q : st[n]? with
      | none => rw [q] at w'; exact w'.elim
      | some cl =>
        cases cl with
        | lst ys =>
          rw [q] at w'
          cases q2 : ys[ys.length - 1]? with
          | none => simp only [q2] at w'; exact w'.elim
          | some y =>
            simp only [q2] at w'
            obtain ⟨b, vs, h1, h2, h3⟩ := S.cell n ys q
            rw [hn] at h1; cases h1
            obtain ⟨yv, h4, h5⟩ := h3.get q2
            refine mt_pop pins s σ H _ _ v us Q I rx rxs ⟨a, vs, yv, rfl, rfl, h2, by rw [h3.length]; exact h4, ?_⟩
            exact w' _ _ (.write hn) (S.write hn h3.dropLast) _ (h5.ext (.write hn))
    | _ => exact w.elim
  | [e], rs, w =>
    obtain ⟨y, rfl, r2⟩ := one_of rs
    cases r1 with
    | @ref n a hn =>
      cases r2 with
      | int k =>
        have w' : Wn eo X.K fa W σ' φ hid H (match st[n]? with
          | some (.lst xs) => if 0 ≤ k ∧ k < 2 ^ 63 then match xs[k.toNat]? with
            | some y => .ok y (st.set n (.lst (xs.eraseIdx k.toNat)))
            | none => .stuck
            else .stuck
          | none => .stuck) (CE X.K fa hid Q) := w
        cases q : st[n]? with
        | none => rw [q] at w'; exact w'.elim
        | some cl =>
          cases cl with
          | lst ys =>
            rw [q] at w'
            by_cases hk : 0 ≤ k ∧ k < 2 ^ 63
            · simp only [if_pos hk] at w'
              cases q2 : ys[k.toNat]? with
              | none => simp only [q2] at w'; exact w'.elim
              | some y =>
                simp only [q2] at w'
                obtain ⟨b, vs, h1, h2, h3⟩ := S.cell n ys q
                rw [hn] at h1; cases h1
                obtain ⟨yv, h4, h5⟩ := h3.get q2
                have hlt := (List.getElem?_eq_some_iff.mp h4).1
                have hi : seqIndex? k vs.length = some k.toNat := by
                  have a1 : ¬ k < 0 := by omega
                  have a2 : 0 ≤ k := hk.1
                  have a3 : k < (vs.length : Int) := by omega
                  unfold seqIndex?
                  simp only [if_neg a1, decide_eq_true a2, decide_eq_true a3, Bool.and_self, if_true]
                refine mt_popAt pins s σ H _ _ v us Q I rx rxs ⟨a, vs, k, k.toNat, yv, rfl, rfl, h2, by omega, by omega, hi, h4, ?_⟩
                exact w' _ _ (.write hn) (S.write hn (h3.eraseIdx _)) _ (h5.ext (.write hn))
            · simp only [if_neg hk] at w'; exact w'.elim
      | _ => exact w.elim
    | _ => cases r2 <;> exact w.elim
  | _ :: _ :: _, _, w => exact w.elim
end
end PC
set_option Elab.async false
set_option linter.all false
set_option maxRecDepth 100000
set_option maxHeartbeats 4000000
namespace PC
open PySem PySem.Spec L2

structure Tab where
  fn : Str → Option Nat
  con : Str → Option D
  bl : List Str
  cls : Str → Option Nat
  /-- the defs that are called -/
  tbl : Nat → Option Def
  par : Nat → List Str
/-- what a module's names hold -/
structure Glb (T : Tab) (K : PySem.W.Frag) (mg : Str → Option Value) (fa : Nat → Addr) (eo : Nat → Option (Value × Option Str)) : Prop where
  fn : ∀ x i, T.fn x = some i → mg x = some (.ref (fa i))
  keep : ∀ i d, T.tbl i = some d → PySem.W.keepIn K (.ref (fa i)) = true
  np : ∀ i d, T.tbl i = some d → (T.par i).length = d.np
  con : ∀ x d, T.con x = some d → ∃ u v, mg x = some u ∧ RelV v u ∧ ∀ φ hid H, Rep K fa φ hid H d v
  bl : ∀ x, x ∈ T.bl → mg x = none
  cls : ∀ x c, T.cls x = some c → ∃ (C : Addr) (bmB : List Value) (B newId initId : String), mg x = some (.ref C) ∧ eo c = some (.ref C, none) ∧ ExcBaseFacts B newId initId bmB ∧ PySem.W.excIn K C bmB newId = true ∧ PySem.W.keepIn K (.ref C) = true ∧ PySem.W.subIn K (.ref C) (.type "BaseException") = some true ∧ PySem.W.typeIn K (.ref C) = some (.type "type") ∧ PySem.W.exmOne K (.ref C) (.ref C) = some true
section
variable (T : Tab) (fa : Nat → Addr) (eo : Nat → Option (Value × Option Str))
/-- a def's promise at level k -/
def spF (K : PySem.W.Frag) (k i : Nat) : Sp := fun vs H Q E => ∃ args st φ hid, vs.length = (T.par i).length ∧ StoreOk K fa st φ hid H ∧ Reps K fa φ hid H args vs ∧
  Wn eo K fa (fun cls d _ H' => E cls d H') [] φ hid H (callF T.tbl k i args st) (CE K fa hid Q)
structure Good (k : Nat) (N : List Str) (sc : Scope) (X : Cx) : Prop where
  hN : X.N = N
  nd : N.Nodup
  sc : X.env.scope = sc
  calm : X.calm = true
  room : Room k X.A
  glb : Glb T X.K X.mg fa eo
  fns : ∀ i d, T.tbl i = some d → ∃ fd, FnOk X.prog X.w X.K X.mg X.base (L2.CX X.prog X.w) k (fa i) fd (T.par i) (spF T fa eo X.K k i) ∧ Binds X.K fd (T.par i) []
end

section
variable (cf : Nat → List D → M D) (eo : Nat → Option (Value × Option Str)) (K : PySem.W.Frag) (fa : Nat → Addr) (W : WX)
def rdE (e : E) : TE := fun σ H Q => ∃ ρ st φ hid, EnvOk K fa ρ σ φ hid H ∧ StoreOk K fa st φ hid H ∧ Wn eo K fa W σ φ hid H (evE cf e ρ st) (CE K fa hid Q)
def rdT (e : E) : TT := fun σ H Q => ∃ ρ st φ hid, EnvOk K fa ρ σ φ hid H ∧ StoreOk K fa st φ hid H ∧ Wn eo K fa W σ φ hid H ((evE cf e ρ >>= asBool) st) (fun b _ _ H' => Q b H')
def rdA (e : E) : TA := fun σ H Q => ∃ ρ st φ hid, EnvOk K fa ρ σ φ hid H ∧ StoreOk K fa st φ hid H ∧ Wn eo K fa W σ φ hid H ((evE cf e ρ >>= tupOf) st) (fun xs _ φ' H' => ∀ vs, Reps K fa φ' hid H' xs vs → Q vs H')
/-- an iterator gives the source's items -/
def ItOk (J : It) (src : Src) (φ₀ hid : List Addr) (H₀ : Hp) : Prop := ∀ (hid' : List Addr), (∀ a ∈ hid', a ∈ hid ∨ H₀ a = none) → ∀ (i : Nat) (φ : List Addr) (H : Hp) (st : Store), Ext φ₀ H₀ φ H → StoreOk K fa st φ hid' H →
  ∀ xs, (match src with | .items ys => some ys | .cell n => lstOf st (.ref n)) = some xs →
    (∀ d, xs[i]? = some d → J.go i H ∧ ∀ x H2, J.yld i H x H2 → Ext φ H φ H2 ∧ StoreOk K fa st φ hid' H2 ∧ Rep K fa φ hid' H2 d x) ∧ (xs[i]? = none → J.stop i H)
def rdI (e : E) : TI := fun σ H R => ∃ ρ st φ hid, EnvOk K fa ρ σ φ hid H ∧ StoreOk K fa st φ hid H ∧ Wn eo K fa W σ φ hid H (evI cf e ρ st) (fun src _ φ' H' => ∀ J, ItOk K fa J src φ' hid H' → R J H')
end
theorem PE.weak {X : Cx} {e : Expr} {t t' : TE} (h : PE X e t) (i : ∀ σ H Q, t' σ H Q → t σ H Q) : PE X e t' := ⟨fun pins s σ H Q I q => h.run pins s σ H Q I (i _ _ _ q)⟩
theorem PT.weak {X : Cx} {e : Expr} {t t' : TT} (h : PT X e t) (i : ∀ σ H Q, t' σ H Q → t σ H Q) : PT X e t' := ⟨fun pins s σ H Q I q => h.run pins s σ H Q I (i _ _ _ q)⟩
theorem PA.weak {X : Cx} {e : List Expr} {t t' : TA} (h : PA X e t) (i : ∀ σ H Q, t' σ H Q → t σ H Q) : PA X e t' := ⟨fun p pins s σ H Q I q => h.run p pins s σ H Q I (i _ _ _ q)⟩
theorem PI.weak {X : Cx} {tg e : Expr} {t t' : TI} (h : PI X tg e t) (i : ∀ σ H Q, t' σ H Q → t σ H Q) : PI X tg e t' := ⟨fun pins s σ H Q I q => h.run pins s σ H Q I (i _ _ _ q)⟩
theorem PS.weak {X : Cx} {e : Stmt} {t t' : TS} (h : PS X e t) (i : ∀ D σ H, t' D σ H → t D σ H) : PS X e t' := ⟨fun pins s σ H D I q => h.run pins s σ H D I (i _ _ _ q)⟩
theorem PSs.weak {X : Cx} {e : List Stmt} {t t' : TS} (h : PSs X e t) (i : ∀ D σ H, t' D σ H → t D σ H) : PSs X e t' := ⟨fun pins s σ H D I q => h.run pins s σ H D I (i _ _ _ q)⟩

def notStar : Expr → Bool
  | .Starred _ _ => false
  | _ => true
theorem star_cons {e : Expr} {es : List Expr} {env : Env} (h : notStar e = true) : starEach (e :: es) env = (false, eval e env) :: starEach es env := by
  cases e <;> first | rfl | cases h
theorem star_plain {env : Env} {pos : Pos} : ∀ {es : List Expr}, es.all notStar = true → (backTo pos (starEach es env)).any (·.1) = false
  | [], _ => rfl
  | e :: es, h => by
    rw [List.all_cons, Bool.and_eq_true] at h
    rw [star_cons h.1]
    show (false || (backTo pos (starEach es env)).any (·.1)) = false
    rw [star_plain h.2]; rfl

section
variable {cf : Nat → List D → M D} {eo : Nat → Option (Value × Option Str)} {K : PySem.W.Frag} {fa : Nat → Addr} {W : WX}
/-- one value, then a step -/
theorem rdE_bind {α : Type} {e : E} {f : D → M α} {σ : L2.St} {H : Hp} {ρ : Rho} {st : Store} {φ hid : List Addr} {C : α → Store → List Addr → Hp → Prop} {k : V → Hp → Prop} (hE : EnvOk K fa ρ σ φ hid H) (hS : StoreOk K fa st φ hid H)
    (w : Wn eo K fa W σ φ hid H ((evE cf e ρ >>= f) st) C)
    (h : ∀ d st1 φ1 H1 v, EnvOk K fa ρ σ φ1 hid H1 → StoreOk K fa st1 φ1 hid H1 → Rep K fa φ1 hid H1 d v → Ext φ H φ1 H1 → Wn eo K fa W σ φ1 hid H1 (f d st1) C → k v H1) : rdE cf eo K fa W e σ H k := by
  refine ⟨ρ, st, φ, hid, hE, hS, ?_⟩
  have w1 := w.bind
  cases q : evE cf e ρ st with
  | ok d st1 =>
    rw [q] at w1
    exact fun H1 φ1 x s v r => h d st1 φ1 H1 v (hE.ext x) s r x (w1 H1 φ1 x s)
  | exc x st1 => rw [q] at w1; exact w1
  | stuck => rw [q] at w1; exact w1
theorem rdA_bind {α : Type} {e : E} {f : List D → M α} {σ : L2.St} {H : Hp} {ρ : Rho} {st : Store} {φ hid : List Addr} {C : α → Store → List Addr → Hp → Prop} {k : List V → Hp → Prop} (hE : EnvOk K fa ρ σ φ hid H) (hS : StoreOk K fa st φ hid H)
    (w : Wn eo K fa W σ φ hid H ((evE cf e ρ >>= fun r => tupOf r >>= f) st) C)
    (h : ∀ ds st1 φ1 H1 vs, EnvOk K fa ρ σ φ1 hid H1 → StoreOk K fa st1 φ1 hid H1 → Reps K fa φ1 hid H1 ds vs → Ext φ H φ1 H1 → Wn eo K fa W σ φ1 hid H1 (f ds st1) C → k vs H1) : rdA cf eo K fa W e σ H k := by
  refine ⟨ρ, st, φ, hid, hE, hS, ?_⟩
  have w0 : Wn eo K fa W σ φ hid H (((evE cf e ρ >>= tupOf) >>= f) st) C := by
    have e1 : ((evE cf e ρ >>= tupOf) >>= f) st = (evE cf e ρ >>= fun r => tupOf r >>= f) st := by
      show M.bind (M.bind (evE cf e ρ) tupOf) f st = M.bind (evE cf e ρ) (fun r => M.bind (tupOf r) f) st
      unfold M.bind
      cases evE cf e ρ st <;> rfl
    rw [e1]; exact w
  have w1 := w0.bind
  cases q : (evE cf e ρ >>= tupOf) st with
  | ok d st1 =>
    rw [q] at w1
    exact fun H1 φ1 x s v r => h d st1 φ1 H1 v (hE.ext x) s r x (w1 H1 φ1 x s)
  | exc x st1 => rw [q] at w1; exact w1
  | stuck => rw [q] at w1; exact w1
theorem wn_bool {σ : L2.St} {H : Hp} {st : Store} {φ hid : List Addr} {α : Type} {d : D} {v : V} {f : Bool → M α} {C : α → Store → List Addr → Hp → Prop} (r : Rep K fa φ hid H d v) (w : Wn eo K fa W σ φ hid H ((asBool d >>= f) st) C) : ∃ b, d = .bl b ∧ v = .bl b ∧ Wn eo K fa W σ φ hid H (f b st) C := by
  cases r with
  | bl b => exact ⟨b, rfl, rfl, w⟩
  | _ => exact w.elim

/-- each argument's rule -/
def AllPE (cf : Nat → List D → M D) (eo : Nat → Option (Value × Option Str)) (fa : Nat → Addr) (X : Cx) (W : WX) : E → List Expr → Prop
  | .nil, [] => True
  | .cons a b, e :: es => (PE X e (rdE cf eo X.K fa W a) ∧ notStar e = true) ∧ AllPE cf eo fa X W b es
  | _, _ => False
theorem AllPE.plain {X : Cx} : ∀ {e : E} {es : List Expr}, AllPE cf eo fa X W e es → es.all notStar = true
  | .nil, [], _ => rfl
  | .cons a b, e :: es, h => by rw [List.all_cons, h.1.2, AllPE.plain h.2]; rfl
  | .nil, _ :: _, h => h.elim
  | .cons _ _, [], h => h.elim
  | .var _, [], h | .cst _, [], h | .glo _, [], h | .fnv _, [], h | .tup _, [], h | .lst _ _, [], h | .bi _ _, [], h | .mth _ _ _, [], h | .sl _ _ _ _ _ _, [], h | .and_ _ _, [], h | .or_ _ _, [], h | .not_ _, [], h | .ite _ _ _, [], h | .chain _ _ _ _ _, [], h | .call _ _, [], h | .callv _ _, [], h | .comp _ _ _ _ _ _, [], h | .comp2 _ _ _ _ _ _, [], h | .lsI _ _, [], h | .tpI _, [], h | .sq _, [], h | .rg1 _, [], h | .rg2 _ _, [], h | .rg3 _ _ _, [], h | .zip _ _, [], h | .enum _, [], h => h.elim
  | .var _, _ :: _, h | .cst _, _ :: _, h | .glo _, _ :: _, h | .fnv _, _ :: _, h | .tup _, _ :: _, h | .lst _ _, _ :: _, h | .bi _ _, _ :: _, h | .mth _ _ _, _ :: _, h | .sl _ _ _ _ _ _, _ :: _, h | .and_ _ _, _ :: _, h | .or_ _ _, _ :: _, h | .not_ _, _ :: _, h | .ite _ _ _, _ :: _, h | .chain _ _ _ _ _, _ :: _, h | .call _ _, _ :: _, h | .callv _ _, _ :: _, h | .comp _ _ _ _ _ _, _ :: _, h | .comp2 _ _ _ _ _ _, _ :: _, h | .lsI _ _, _ :: _, h | .tpI _, _ :: _, h | .sq _, _ :: _, h | .rg1 _, _ :: _, h | .rg2 _ _, _ :: _, h | .rg3 _ _ _, _ :: _, h | .zip _ _, _ :: _, h | .enum _, _ :: _, h => h.elim
theorem AllPE.shape {X : Cx} {e : E} {es : List Expr} (h : AllPE cf eo fa X W e es) : (e = .nil ∧ es = []) ∨ ∃ a b x xs, e = .cons a b ∧ es = x :: xs ∧ (PE X x (rdE cf eo X.K fa W a) ∧ notStar x = true) ∧ AllPE cf eo fa X W b xs := by
  cases e with
  | nil =>
    cases es with
    | nil => exact .inl ⟨rfl, rfl⟩
    | cons _ _ => exact h.elim
  | cons a b =>
    cases es with
    | nil => exact h.elim
    | cons x xs => exact .inr ⟨a, b, x, xs, rfl, rfl, h.1, h.2⟩
  | _ => cases es <;> exact h.elim
theorem AllPE.pa {X : Cx} : ∀ {es : List Expr} {e : E}, AllPE cf eo fa X W e es → PA X es (rdA cf eo X.K fa W e)
  | [], e, h => by
    rcases h.shape with ⟨rfl, _⟩ | ⟨_, _, _, _, _, z, _⟩
    · refine PA.weak pa_nil fun σ H Q q => ?_
      obtain ⟨ρ, st, φ, hid, hE, hS, w⟩ := q
      exact w _ _ .refl hS _ .nil
    · cases z
  | x :: xs, e, h => by
    rcases h.shape with ⟨_, z⟩ | ⟨a, b, x', xs', rfl, z, h1, h2⟩
    · cases z
    · cases z
      refine PA.weak (pa_cons h1.1 (AllPE.pa h2) (star_cons h1.2)) fun σ H Q q => ?_
      obtain ⟨ρ, st, φ, hid, hE, hS, w⟩ := q
      have w' : Wn eo X.K fa W σ φ hid H ((evE cf a ρ >>= fun d => evE cf b ρ >>= fun r => tupOf r >>= fun ds => (fun st => .ok (d :: ds) st : M (List D))) st) (fun ys _ φ' H' => ∀ vs, Reps X.K fa φ' hid H' ys vs → Q vs H') := by
        have e1 : (evE cf (.cons a b) ρ >>= tupOf) st = (evE cf a ρ >>= fun d => evE cf b ρ >>= fun r => tupOf r >>= fun ds => (fun st => .ok (d :: ds) st : M (List D))) st := by
          show M.bind (M.bind (evE cf a ρ) fun d => M.bind (evE cf b ρ) fun r => M.bind (tupOf r) fun ds => fun st => .ok (.tup (d :: ds)) st) tupOf st = M.bind (evE cf a ρ) (fun d => M.bind (evE cf b ρ) fun r => M.bind (tupOf r) fun ds => fun st => .ok (d :: ds) st) st
          unfold M.bind
          cases evE cf a ρ st with
          | ok d st1 =>
            dsimp only
            cases evE cf b ρ st1 with
            | ok r st2 =>
              dsimp only
              cases tupOf r st2 <;> rfl
            | exc _ _ => rfl
            | stuck => rfl
          | exc _ _ => rfl
          | stuck => rfl
        rw [← e1]; exact w
      exact rdE_bind hE hS w' fun d st1 φ1 H1 v hE1 hS1 r1 x1 w1 => rdA_bind hE1 hS1 w1 fun ds st2 φ2 H2 vs hE2 hS2 r2 x2 w2 => w2 _ _ .refl hS2 _ (.cons (r1.ext x2) r2)
end
end PC
set_option Elab.async false
set_option linter.all false
set_option maxRecDepth 100000
set_option maxHeartbeats 4000000
namespace PC
open PySem PySem.Spec L2

def isGl (sc : Scope) (x : Str) : Bool := decide (sc.names.lookup x = some .globalImplicit)
def isVis (sc : Scope) (x : Str) : Bool := decide (sc.names.lookup x = some .local) || decide (sc.names.lookup x = some .cell) || decide (sc.names.lookup x = some .free)
def isBl (T : Tab) (sc : Scope) (x : Str) (n : String) : Bool := decide (x = (n : Str)) && isGl sc x && T.bl.contains x
def notSlice : Expr → Bool
  | .Slice _ _ _ _ => false
  | _ => true
def notSet : Expr → Bool
  | .Set _ _ _ => false
  | _ => true
def plainObj : Expr → Bool
  | .Name _ _ => true
  | .Subscript _ _ _ => true
  | _ => false
def tyName : Ty → String
  | .int => "int" | .bool => "bool" | .str => "str" | .tuple => "tuple" | .list => "list"
def tysOf (T : Tab) (sc : Scope) : List Ty → List Expr → Bool
  | [], [] => true
  | t :: ts, .Name x _ :: es => isBl T sc x (tyName t) && tysOf T sc ts es
  | _, _ => false
/-- a call of a built-in by its name -/
def call1 (T : Tab) (sc : Scope) (n : String) : Expr → Option (List Expr)
  | .Call (.Name x _) [a] [] _ => if isBl T sc x n then some [a] else none
  | _ => none
def call2 (T : Tab) (sc : Scope) (n : String) : Expr → Option (List Expr)
  | .Call (.Name x _) [a, b] [] _ => if isBl T sc x n then some [a, b] else none
  | _ => none
def meth (n : String) : Expr → Option (List Expr)
  | .Call (.Attribute o x ap) args [] cp => if decide (x = (n : Str)) && plainObj o && (ap.endLine == cp.line) then some (o :: args) else none
  | _ => none
def cmp1 (o : CmpOp) : Expr → Option (List Expr)
  | .Compare l [o'] [r] _ => if decide (o' = o) && notSet r then some [l, r] else none
  | _ => none
def bin1 (o : Operator) : Expr → Option (List Expr)
  | .BinOp l o' r _ => if decide (o' = o) then some [l, r] else none
  | _ => none
def formNeg : Expr → Option (List Expr)
  | .UnaryOp .USub a _ => some [a]
  | _ => none
def formIsN : Expr → Option (List Expr)
  | .Compare l [.Is] [.Constant .none _ _] _ => some [l]
  | _ => none
def formIsNN : Expr → Option (List Expr)
  | .Compare l [.IsNot] [.Constant .none _ _] _ => some [l]
  | _ => none
def formIsB (b : Bool) : Expr → Option (List Expr)
  | .Compare l [.Is] [.Constant (.bool b') _ _] _ => if decide (b = b') then some [l] else none
  | _ => none
def formIsNB (b : Bool) : Expr → Option (List Expr)
  | .Compare l [.IsNot] [.Constant (.bool b') _ _] _ => if decide (b = b') then some [l] else none
  | _ => none
def formIdx : Expr → Option (List Expr)
  | .Subscript a i _ => if notSlice i then some [a, i] else none
  | _ => none
def formRev : Expr → Option (List Expr)
  | .Subscript a (.Slice none none (some (.UnaryOp .USub (.Constant (.int 1) _ _) _)) _) _ => some [a]
  | _ => none
def formIsi (T : Tab) (sc : Scope) (ts : List Ty) : Expr → Option (List Expr)
  | .Call (.Name x _) [a, .Name y _] [] _ => match ts with
    | [t] => if isBl T sc x "isinstance" && isBl T sc y (tyName t) then some [a] else none
    | _ => none
  | .Call (.Name x _) [a, .Tuple es _ _] [] _ => if isBl T sc x "isinstance" && tysOf T sc ts es && decide (ts.length ≤ 1000) then some [a] else none
  | _ => none
def formOf (T : Tab) (sc : Scope) (b : Bi) (e : Expr) : Option (List Expr) := match b with
  | .add _ => bin1 .Add e
  | .sub => bin1 .Sub e
  | .mul _ => bin1 .Mult e
  | .fdiv => bin1 .FloorDiv e
  | .mod => bin1 .Mod e
  | .neg => formNeg e
  | .eq => cmp1 .Eq e
  | .ne => cmp1 .NotEq e
  | .lt => cmp1 .Lt e
  | .le => cmp1 .LtE e
  | .gt => cmp1 .Gt e
  | .ge => cmp1 .GtE e
  | .inn => cmp1 .In e
  | .nin => cmp1 .NotIn e
  | .isN => formIsN e
  | .isNN => formIsNN e
  | .isB b => formIsB b e
  | .isNB b => formIsNB b e
  | .idx => formIdx e
  | .rev _ => formRev e
  | .len => call1 T sc "len" e
  | .abs => call1 T sc "abs" e
  | .int => call1 T sc "int" e
  | .str => call1 T sc "str" e
  | .sum => call1 T sc "sum" e
  | .tuple => call1 T sc "tuple" e
  | .list _ => call1 T sc "list" e
  | .all => call1 T sc "all" e
  | .any => call1 T sc "any" e
  | .max => call2 T sc "max" e
  | .min => call2 T sc "min" e
  | .append => none
  | .pop => none
  | .popAt => none
  | .isinst ts => formIsi T sc ts e

section
variable {T : Tab} {sc : Scope} {k : Nat} {N : List Str} {X : Cx} {fa : Nat → Addr} {eo : Nat → Option (Value × Option Str)}
theorem isBl_of {x : Str} {n : String} (h : isBl T sc x n = true) : x = (n : Str) ∧ sc.names.lookup x = some .globalImplicit ∧ x ∈ T.bl := by
  unfold isBl at h
  rw [Bool.and_eq_true, Bool.and_eq_true] at h
  exact ⟨of_decide_eq_true h.1.1, of_decide_eq_true h.1.2, by simpa using h.2⟩
theorem Good.gl (G : Good T fa eo k N sc X) {x : Str} (h : sc.names.lookup x = some .globalImplicit) : Gl X x := by
  show X.env.scope.names.lookup x = _
  rw [G.sc]; exact h
theorem Good.vis (G : Good T fa eo k N sc X) {x : Str} (h : isVis sc x = true) : Vis X.env.scope x := by
  rw [G.sc]
  unfold isVis at h
  rw [Bool.or_eq_true, Bool.or_eq_true] at h
  rcases h with (h | h) | h
  · exact .inl (of_decide_eq_true h)
  · exact .inr (.inl (of_decide_eq_true h))
  · exact .inr (.inr (of_decide_eq_true h))
theorem Good.hu (G : Good T fa eo k N sc X) : X.A.units + 65 < cLine := by
  have := G.room.un
  omega
end

section
variable {cf : Nat → List D → M D} {eo : Nat → Option (Value × Option Str)} {K : PySem.W.Frag} {fa : Nat → Addr} {W : WX}
theorem M.bind_eq {α β : Type} (m : M α) (f : α → M β) (st : Store) : (m >>= f) st = match m st with
    | .ok a st' => f a st'
    | .exc e st' => .exc e st'
    | .stuck => .stuck := rfl
theorem args1 {α : Type} {a : E} {ρ : Rho} {st : Store} {f : List D → M α} : (evE cf (.cons a .nil) ρ >>= fun r => tupOf r >>= f) st = (evE cf a ρ >>= fun d => f [d]) st := by
  show M.bind (M.bind (evE cf a ρ) fun d => M.bind (fun st => .ok (.tup []) st) fun r => M.bind (tupOf r) fun ds => fun st => .ok (.tup (d :: ds)) st) (fun r => M.bind (tupOf r) f) st = M.bind (evE cf a ρ) (fun d => f [d]) st
  unfold M.bind
  cases evE cf a ρ st <;> rfl
theorem args2 {α : Type} {a b : E} {ρ : Rho} {st : Store} {f : List D → M α} : (evE cf (.cons a (.cons b .nil)) ρ >>= fun r => tupOf r >>= f) st = (evE cf a ρ >>= fun d => evE cf b ρ >>= fun e => f [d, e]) st := by
  show M.bind (M.bind (evE cf a ρ) fun d => M.bind (M.bind (evE cf b ρ) fun d => M.bind (fun st => .ok (.tup []) st) fun r => M.bind (tupOf r) fun ds => fun st => .ok (.tup (d :: ds)) st) fun r => M.bind (tupOf r) fun ds => fun st => .ok (.tup (d :: ds)) st) (fun r => M.bind (tupOf r) f) st
    = M.bind (evE cf a ρ) (fun d => M.bind (evE cf b ρ) fun e => f [d, e]) st
  unfold M.bind
  cases evE cf a ρ st with
  | ok d st1 =>
    dsimp only
    cases evE cf b ρ st1 <;> rfl
  | exc _ _ => rfl
  | stuck => rfl
theorem args3 {α : Type} {a b c : E} {ρ : Rho} {st : Store} {f : List D → M α} : (evE cf (.cons a (.cons b (.cons c .nil))) ρ >>= fun r => tupOf r >>= f) st = (evE cf a ρ >>= fun d => evE cf b ρ >>= fun e => evE cf c ρ >>= fun g => f [d, e, g]) st := by
  show M.bind (M.bind (evE cf a ρ) fun d => M.bind (M.bind (evE cf b ρ) fun d => M.bind (M.bind (evE cf c ρ) fun d => M.bind (fun st => .ok (.tup []) st) fun r => M.bind (tupOf r) fun ds => fun st => .ok (.tup (d :: ds)) st) fun r => M.bind (tupOf r) fun ds => fun st => .ok (.tup (d :: ds)) st) fun r => M.bind (tupOf r) fun ds => fun st => .ok (.tup (d :: ds)) st) (fun r => M.bind (tupOf r) f) st
    = M.bind (evE cf a ρ) (fun d => M.bind (evE cf b ρ) fun e => M.bind (evE cf c ρ) fun g => f [d, e, g]) st
  unfold M.bind
  cases evE cf a ρ st with
  | ok d st1 =>
    dsimp only
    cases evE cf b ρ st1 with
    | ok e st2 =>
      dsimp only
      cases evE cf c ρ st2 <;> rfl
    | exc _ _ => rfl
    | stuck => rfl
  | exc _ _ => rfl
  | stuck => rfl
theorem rd1 {b : Bi} {a : E} {σ : L2.St} {H : Hp} {Q : VK} (h : rdE cf eo K fa W (.bi b (.cons a .nil)) σ H Q) :
    rdE cf eo K fa W a σ H fun x H1 => ∃ φ hid st d, StoreOk K fa st φ hid H1 ∧ Rep K fa φ hid H1 d x ∧ Wn eo K fa W σ φ hid H1 (biV b [d] st) (CE K fa hid Q) := by
  obtain ⟨ρ, st, φ, hid, hE, hS, w⟩ := h
  have w' : Wn eo K fa W σ φ hid H ((evE cf a ρ >>= fun d => biV b [d]) st) (CE K fa hid Q) := by rw [← args1]; exact w
  exact rdE_bind hE hS w' fun d st1 φ1 H1 v hE1 hS1 r1 x1 w1 => ⟨φ1, hid, st1, d, hS1, r1, w1⟩
theorem rd2 {b : Bi} {a c : E} {σ : L2.St} {H : Hp} {Q : VK} (h : rdE cf eo K fa W (.bi b (.cons a (.cons c .nil))) σ H Q) :
    rdE cf eo K fa W a σ H fun x H1 => rdE cf eo K fa W c σ H1 fun y H2 => ∃ φ hid st d e, StoreOk K fa st φ hid H2 ∧ Rep K fa φ hid H2 d x ∧ Rep K fa φ hid H2 e y ∧ Wn eo K fa W σ φ hid H2 (biV b [d, e] st) (CE K fa hid Q) := by
  obtain ⟨ρ, st, φ, hid, hE, hS, w⟩ := h
  have w' : Wn eo K fa W σ φ hid H ((evE cf a ρ >>= fun d => evE cf c ρ >>= fun e => biV b [d, e]) st) (CE K fa hid Q) := by rw [← args2]; exact w
  exact rdE_bind hE hS w' fun d st1 φ1 H1 v hE1 hS1 r1 x1 w1 => rdE_bind hE1 hS1 w1 fun e st2 φ2 H2 u hE2 hS2 r2 x2 w2 => ⟨φ2, hid, st2, d, e, hS2, r1.ext x2, r2, w2⟩
theorem rd3 {b : Bi} {a c e : E} {σ : L2.St} {H : Hp} {Q : VK} (h : rdE cf eo K fa W (.bi b (.cons a (.cons c (.cons e .nil)))) σ H Q) :
    rdE cf eo K fa W a σ H fun x H1 => rdE cf eo K fa W c σ H1 fun y H2 => rdE cf eo K fa W e σ H2 fun z H3 => ∃ φ hid st d1 d2 d3, StoreOk K fa st φ hid H3 ∧ Rep K fa φ hid H3 d1 x ∧ Rep K fa φ hid H3 d2 y ∧ Rep K fa φ hid H3 d3 z ∧ Wn eo K fa W σ φ hid H3 (biV b [d1, d2, d3] st) (CE K fa hid Q) := by
  obtain ⟨ρ, st, φ, hid, hE, hS, w⟩ := h
  have w' : Wn eo K fa W σ φ hid H ((evE cf a ρ >>= fun d => evE cf c ρ >>= fun d2 => evE cf e ρ >>= fun d3 => biV b [d, d2, d3]) st) (CE K fa hid Q) := by rw [← args3]; exact w
  exact rdE_bind hE hS w' fun d st1 φ1 H1 v hE1 hS1 r1 x1 w1 => rdE_bind hE1 hS1 w1 fun d2 st2 φ2 H2 u hE2 hS2 r2 x2 w2 => rdE_bind hE2 hS2 w2 fun d3 st3 φ3 H3 z hE3 hS3 r3 x3 w3 =>
    ⟨φ3, hid, st3, d, d2, d3, hS3, (r1.ext x2).ext x3, r2.ext x3, r3, w3⟩
/-- an argument list, then an operation -/
theorem rdAs {b : Bi} {es : E} {σ : L2.St} {H : Hp} {Q : VK} (h : rdE cf eo K fa W (.bi b es) σ H Q) :
    rdA cf eo K fa W es σ H fun vs H1 => ∃ φ hid st ds, StoreOk K fa st φ hid H1 ∧ Reps K fa φ hid H1 ds vs ∧ Wn eo K fa W σ φ hid H1 (biV b ds st) (CE K fa hid Q) := by
  obtain ⟨ρ, st, φ, hid, hE, hS, w⟩ := h
  exact rdA_bind hE hS w fun ds st1 φ1 H1 vs hE1 hS1 r1 x1 w1 => ⟨φ1, hid, st1, ds, hS1, r1, w1⟩
/-- what a rule by one datum asks -/
theorem rb1 {b : Bi} {ev : D → M D} (hev : ∀ d, biV b [d] = ev d) (hno : ∀ ds, ds.length ≠ 1 → biV b ds = stuck) {φ hid : List Addr} {st : Store} {ds : List D} {σ : L2.St} {H : Hp} {vs : List V} {Q : VK} (S : StoreOk K fa st φ hid H) (r : Reps K fa φ hid H ds vs) (w : Wn eo K fa W σ φ hid H (biV b ds st) (CE K fa hid Q)) : rB1 eo K fa ev vs H Q := by
  by_cases hl : ds.length = 1
  · obtain ⟨d, rfl⟩ := List.length_eq_one_iff.mp hl
    rw [hev] at w
    exact ⟨φ, hid, st, d, W, σ, S, r, w⟩
  · rw [hno ds hl] at w
    exact w.elim
theorem rb2 {b : Bi} {ev : D → D → M D} (hev : ∀ d e, biV b [d, e] = ev d e) (hno : ∀ ds, ds.length ≠ 2 → biV b ds = stuck) {φ hid : List Addr} {st : Store} {ds : List D} {σ : L2.St} {H : Hp} {vs : List V} {Q : VK} (S : StoreOk K fa st φ hid H) (r : Reps K fa φ hid H ds vs) (w : Wn eo K fa W σ φ hid H (biV b ds st) (CE K fa hid Q)) : rB2 eo K fa ev vs H Q := by
  by_cases hl : ds.length = 2
  · obtain ⟨d, e, rfl⟩ : ∃ d e, ds = [d, e] := by
      match ds, hl with
      | [d, e], _ => exact ⟨d, e, rfl⟩
    rw [hev] at w
    exact ⟨φ, hid, st, d, e, W, σ, S, r, w⟩
  · rw [hno ds hl] at w
    exact w.elim
end
end PC
set_option Elab.async false
set_option linter.all false
set_option maxRecDepth 100000
set_option maxHeartbeats 4000000
namespace PC
open PySem PySem.Spec L2
theorem rev_pick (xs : Array Value) : (List.range xs.size).filterMap (fun (k : Nat) => xs[(((xs.size : Int) - 1) + (k : Int) * (-1)).toNat]?) = xs.toList.reverse := by
  have h1 : ∀ k ∈ List.range xs.size, xs[(((xs.size : Int) - 1) + (k : Int) * (-1)).toNat]? = (some ∘ fun k => xs.toList.getD (xs.size - 1 - k) .none) k := fun k hk => by
    have hk := List.mem_range.mp hk
    have e : (((xs.size : Int) - 1) + (k : Int) * (-1)).toNat = xs.size - 1 - k := by omega
    have hlt : xs.size - 1 - k < xs.size := by omega
    rw [e, Array.getElem?_eq_getElem hlt]
    show _ = some (xs.toList.getD (xs.size - 1 - k) .none)
    rw [List.getD_eq_getElem?_getD, Array.getElem?_toList, Array.getElem?_eq_getElem hlt]; rfl
  have key : ∀ (l : List Nat), (∀ k ∈ l, xs[(((xs.size : Int) - 1) + (k : Int) * (-1)).toNat]? = (some ∘ fun k => xs.toList.getD (xs.size - 1 - k) .none) k) → l.filterMap (fun (k : Nat) => xs[(((xs.size : Int) - 1) + (k : Int) * (-1)).toNat]?) = l.map (fun k => xs.toList.getD (xs.size - 1 - k) .none) := by
    intro l
    induction l with
    | nil => intro _; rfl
    | cons a r ih =>
      intro h
      rw [List.filterMap_cons, h a List.mem_cons_self, List.map_cons, ih fun k hk => h k (List.mem_cons_of_mem _ hk)]
      rfl
  rw [key _ h1]
  apply List.ext_getElem
  · simp
  · intro i h2 h3
    have hi : i < xs.size := by simpa using h2
    rw [List.getElem_map, List.getElem_range, List.getElem_reverse, List.getD_eq_getElem?_getD, Array.getElem?_toList, Array.getElem?_eq_getElem (by omega)]
    simp
theorem sliceApplied_rev {prog : Program} {w : World} {A : Around} {E : Value → Shared → Prop} {s : Shared} {sl : Addr} {n : Nat} {t : Tok} {Q : Int × Int × Nat → Shared → Prop} (hs : s.heap.IsSliceOf sl .none .none (.int (-1) t))
    (h : Q ((n : Int) - 1, -1, n) s) : wpAny (model prog w) A (Builtin.Slice.sliceApplied (.ref sl) (pure (n : Int))) Q E s := by
  obtain ⟨os, hos, hcs, hds⟩ := id hs
  unfold Builtin.Slice.sliceApplied Builtin.Slice.sliceFields
  refine wpAny_bind (wpAny_bind (wpAny_field hos hds (x := .none) rfl (wpAny_bind (wpAny_field hos hds (x := .none) rfl (wpAny_bind (wpAny_field hos hds (x := .int (-1) t) rfl (wpAny_pure ?_)))))))
  refine wpAny_bind (PyProof.Rows.slicePart_int ?_)
  show wpAny _ _ (if ((-1 : Int) == 0) = true then _ else _) _ _ s
  rw [if_neg (by decide)]
  refine wpAny_bind (PyProof.Rows.slicePart_none (wpAny_bind (PyProof.Rows.slicePart_none (wpAny_bind (wpAny_pure ?_)))))
  show wpAny _ _ (match Builtin.Slice.sliceAdjust none none (-1) (n : Int) with | (lo, hi) => pure (lo, (-1 : Int), Builtin.Slice.slicePlaces lo hi (-1))) _ _ s
  have e : Builtin.Slice.sliceAdjust none none (-1) (n : Int) = ((n : Int) - 1, -1) := rfl
  rw [e]
  show wpAny _ _ (pure ((n : Int) - 1, (-1 : Int), Builtin.Slice.slicePlaces ((n : Int) - 1) (-1) (-1))) _ _ s
  have e2 : Builtin.Slice.slicePlaces ((n : Int) - 1) (-1) (-1) = n := by
    unfold Builtin.Slice.slicePlaces
    rw [if_neg (by decide)]
    have e3 : -(-1 : Int) = 1 := rfl
    rw [e3, Int.ediv_one]
    split <;> omega
  rw [e2]
  exact wpAny_pure h
theorem getItem_tuple_rev {prog : Program} {w : World} {A : Around} {E : Value → Shared → Prop} {s : Shared} {t sl : Addr} {items : Array Value} {u : Tok} {Q : Value → Shared → Prop} (ht : PyProof.Rows.IsTup s.heap t items) (hs : s.heap.IsSliceOf sl .none .none (.int (-1) u))
    (h : Q (.ref s.heap.objs.size) { s with heap := s.heap.push { cls := .type "tuple", data := .seq items.toList.reverse.toArray } }) (hsz : items.size ≤ sizeLine) : wpAny (model prog w) A (getItem (.ref t) (.ref sl)) Q E s := by
  have hok : sizeOk (.seq items.toList.reverse.toArray) := by
    show items.toList.reverse.toArray.size ≤ sizeLine
    simpa using hsz
  obtain ⟨os, hos, hcs, hds⟩ := id hs
  have hTs : s.TypeIs (.ref sl) "slice" := ⟨os, hos, hcs⟩
  unfold getItem
  try with_reducible refine wpAny_holding ?_
  first | refine wpAny_bind (wpAny_pure ?_) | skip
  refine wpAny_bind (wpAny_sequenceKey ht.typeIs (by decide) ?_)
  refine wpAny_bind (wpAny_callSpecial?_slot (name := Str.ofString "__getitem__") ht.typeIs PyProof.Rows.slot_tuple_getitem
    (wpAny_call_entry PyProof.Rows.slot_tuple_getitem ht.typeIs PyProof.Rows.entry_tuple_getitem ?_ (PyProof.Rows.args_tuple_getitem _ _)))
  show wpAny _ _ (Builtin.Tuple.tupleItemsOf (.ref t) >>= _) _ _ s
  refine wpAny_bind (PyProof.Rows.tupleItemsOf_ ht ?_)
  refine wpAny_bind (wpAny_typeOf hTs ?_)
  rw [if_pos (by decide)]
  refine wpAny_bind (sliceApplied_rev hs ?_)
  have hno : ¬ ((((items.size : Int) - 1) == 0 && (-1 : Int) == 1 && items.size == items.size) = true) := by
    intro q
    rw [Bool.and_eq_true, Bool.and_eq_true] at q
    exact absurd q.1.2 (by decide)
  show wpAny _ _ (if (((items.size : Int) - 1) == 0 && (-1 : Int) == 1 && items.size == items.size) = true then _ else _) _ _ s
  rw [if_neg hno, rev_pick]
  first
    | exact wpAny_bind (m := Builtin.Tuple.tupleExact _) (wpAny_newObj_type (wpAny_pure ⟨_, rfl, wpAny_pure h⟩) hok)
    | exact wpAny_bind (m := Builtin.Tuple.tupleExact _) (wpAny_newObj_type (wpAny_bind (wpAny_pure (wpAny_pure ⟨_, rfl, wpAny_pure h⟩))) hok)
    | exact wpAny_bind (wpAny_bind (m := Builtin.Tuple.tupleExact _) (wpAny_newObj_type (wpAny_pure (wpAny_pure ⟨_, rfl, wpAny_pure h⟩)) hok))
    | exact wpAny_bind (wpAny_bind (m := Builtin.Tuple.tupleExact _) (wpAny_newObj_type (wpAny_pure ⟨_, rfl, wpAny_pure h⟩) hok))
/-- a[::-1], a tuple -/
def tRevT (K : PySem.W.Frag) (te : TE) : TE := fun σ H Q => te σ H fun x H1 => ∃ a xs, x = .ref a ∧ ((SqL K H1 a xs ∧ ∀ p, H1 p = none → Q (.ref p) (upd H1 p (.lst xs.reverse))) ∨ (SqT K H1 a xs ∧ ∀ p, H1 p = none → Q (.ref p) (upd H1 p (.tup xs.reverse))))
theorem pe_revA {X : Cx} {e : Expr} {te : TE} {k : Nat} {p1 p2 p3 pos : Pos} (he : PE X e te) : PE X (.Subscript e (.Slice none none (some (.UnaryOp .USub (.Constant (.int 1) k p1) p2)) p3) pos) (tRevT X.K te) := by
  refine ⟨fun pins s σ H Q I h => ?_⟩
  refine PyProof.Rows.Subscript_ (thn (he.run pins s σ H _ I h) fun v s1 ⟨x, H1, I1, r1, q1⟩ => ?_)
  obtain ⟨a, xs, ex, q⟩ := q1
  subst ex
  have hst : PO X (some (.UnaryOp .USub (.Constant (.int 1) k p1) p2)) (tPart (tUn (rU fun i => .int (-i)) (tC (.int 1)))) := po_some (pe_un un_neg pe_int)
  cases r1
  refine wpAny_Slice (thn (po_none.run pins s1 σ H1 (fun o H2 => o = none ∧ H2 = H1) I1 ⟨rfl, rfl⟩) fun vl s2 ⟨l, H2, I2, pl, el, e2⟩ => ?_)
  subst el e2
  refine thn (po_none.run pins s2 σ H2 (fun o H3 => o = none ∧ H3 = H2) I2 ⟨rfl, rfl⟩) fun vu s3 ⟨u, H3, I3, pu, eu, e3⟩ => ?_
  subst eu e3
  refine thn (hst.run pins s3 σ H3 (fun o H4 => o = some (-1) ∧ H4 = H3) I3 ⟨1, rfl, -1, rfl, rfl, rfl⟩) fun vs s4 ⟨o, H4, I4, ps, eo, e4⟩ => ?_
  subst eo e4
  have I5 : Inv X pins σ H4 { s4 with heap := s4.heap.push { cls := .type "slice", data := .fields #[vl, vu, vs] } } := I4.kept (t' := s4.toks) fun b ob q => Heap.get?_push_of_some _ q
  show wpAny (model X.prog X.w) X.A (PyProof.Rows.subscriptTail e (.Slice none none (some (.UnaryOp .USub (.Constant (.int 1) k p1) p2)) p3) (.ref a) (.ref s4.heap.objs.size)) (EP X pins σ Q) X.xe { s4 with heap := s4.heap.push { cls := .type "slice", data := .fields #[vl, vu, vs] } }
  have tailU : ∀ {T id}, Shared.TypeIs { s4 with heap := s4.heap.push { cls := .type "slice", data := .fields #[vl, vu, vs] } } (.ref a) T → typeLookup (.type T) "__getitem__" = pure (some (.builtin id)) →
      wpAny (model X.prog X.w) X.A (getItem (.ref a) (.ref s4.heap.objs.size)) (EP X pins σ Q) X.xe { s4 with heap := s4.heap.push { cls := .type "slice", data := .fields #[vl, vu, vs] } } →
      wpAny (model X.prog X.w) X.A (PyProof.Rows.subscriptTail e (.Slice none none (some (.UnaryOp .USub (.Constant (.int 1) k p1) p2)) p3) (.ref a) (.ref s4.heap.objs.size)) (EP X pins σ Q) X.xe { s4 with heap := s4.heap.push { cls := .type "slice", data := .fields #[vl, vu, vs] } } := fun h1 h2 h3 =>
    PyProof.Rows.tail_any (ops := [.ref a, .ref s4.heap.objs.size]) h1 h2 h3 (by with_unfolding_all rfl)
  cases pl
  cases pu
  obtain ⟨t, rfl⟩ : ∃ t, vs = Value.int (-1) t := by cases ps; exact ⟨_, rfl⟩
  have hsl := Heap.IsSliceOf.new s4.heap .none .none (.int (-1) t)
  rcases q with ⟨hx, q⟩ | ⟨hx, q⟩
  · obtain ⟨its, r, ht, hz⟩ := I5.list hx
    have hlen := r.length
    refine tailU ht.isList.typeIs PySem.slot_list_getitem.lookup (wpAny_getItem_list_slice ht.isList hsl .none .none (.int _ _) (by decide) ?_ (by rw [List.size_toArray]; omega))
    rw [PySem.W.krv_pick]
    exact ⟨.ref _, _, I5.laid (t' := s4.toks) (o := .lst xs.reverse) (fun b ob q => Heap.get?_push_of_some _ q) (Nat.le_refl _) ⟨by rw [List.length_reverse]; exact hz, _, 0, r.reverse, Heap.get?_push_size _ rfl⟩, rfl, q _ (I5.hok.fresh (Nat.le_refl _))⟩
  · obtain ⟨its, r, ht, hz⟩ := I5.tuple hx
    have hlen := r.length
    refine tailU ht.typeIs PyProof.Rows.slot_tuple_getitem.lookup (getItem_tuple_rev ht hsl ?_ (by rw [List.size_toArray]; omega))
    exact ⟨.ref _, _, I5.laid (t' := s4.toks) (o := .tup xs.reverse) (fun b ob q => Heap.get?_push_of_some _ q) (Nat.le_refl _) ⟨by rw [List.length_reverse]; exact hz, _, r.reverse, PyProof.Rows.IsTup.new _ _⟩, rfl, q _ (I5.hok.fresh (Nat.le_refl _))⟩
end PC
set_option Elab.async false
set_option linter.all false
set_option maxRecDepth 100000
set_option maxHeartbeats 4000000
namespace PC
open PySem PySem.Spec L2
theorem behind_of {op : CmpOp} {r : Expr} (h : notSet r = true) : behindInMarks op r = false := by
  cases r <;> first | rfl | cases h
theorem cmp1_of {o : CmpOp} {e : Expr} {ops : List Expr} (h : cmp1 o e = some ops) : ∃ l r p, e = .Compare l [o] [r] p ∧ ops = [l, r] ∧ notSet r = true := by
  unfold cmp1 at h
  split at h
  · rename_i l o' r p
    split at h
    · rename_i hc
      rw [Bool.and_eq_true] at hc
      have := of_decide_eq_true hc.1
      subst this
      cases h
      exact ⟨l, r, p, rfl, rfl, hc.2⟩
    · cases h
  · cases h
theorem bin1_of {o : Operator} {e : Expr} {ops : List Expr} (h : bin1 o e = some ops) : ∃ l r p, e = .BinOp l o r p ∧ ops = [l, r] := by
  unfold bin1 at h
  split at h
  · rename_i l o' r p
    split at h
    · rename_i hc
      have := of_decide_eq_true hc
      subst this
      cases h
      exact ⟨l, r, p, rfl, rfl⟩
    · cases h
  · cases h
theorem call1_of {T : Tab} {sc : Scope} {n : String} {e : Expr} {ops : List Expr} (h : call1 T sc n e = some ops) : ∃ x p a p2, e = .Call (.Name x p) [a] [] p2 ∧ ops = [a] ∧ isBl T sc x n = true := by
  unfold call1 at h
  split at h
  · split at h
    · rename_i hc; cases h; exact ⟨_, _, _, _, rfl, rfl, hc⟩
    · cases h
  · cases h
theorem call2_of {T : Tab} {sc : Scope} {n : String} {e : Expr} {ops : List Expr} (h : call2 T sc n e = some ops) : ∃ x p a b p2, e = .Call (.Name x p) [a, b] [] p2 ∧ ops = [a, b] ∧ isBl T sc x n = true := by
  unfold call2 at h
  split at h
  · split at h
    · rename_i hc; cases h; exact ⟨_, _, _, _, _, rfl, rfl, hc⟩
    · cases h
  · cases h
theorem meth_of {n : String} {e : Expr} {ops : List Expr} (h : meth n e = some ops) : ∃ o ap args cp, e = .Call (.Attribute o (n : Str) ap) args [] cp ∧ ops = o :: args ∧ plainObj o = true ∧ (ap.endLine == cp.line) = true := by
  unfold meth at h
  split at h
  · split at h
    · rename_i hc
      rw [Bool.and_eq_true, Bool.and_eq_true] at hc
      have := of_decide_eq_true hc.1.1
      subst this
      cases h
      exact ⟨_, _, _, _, rfl, rfl, hc.1.2, hc.2⟩
    · cases h
  · cases h
theorem base_of {o : Expr} {n : Str} {env : Env} (h : plainObj o = true) : attributeBase o n env (eval o env) = eval o env := by
  cases o <;> first | rfl | cases h
theorem plainIx_of {i : Expr} (h : notSlice i = true) : PlainIx i := by
  cases i <;> first | exact fun _ _ => rfl | cases h
section
variable {cf : Nat → List D → M D} {T : Tab} {sc : Scope} {k : Nat} {N : List Str} {X : Cx} {fa : Nat → Addr} {eo : Nat → Option (Value × Option Str)} {W : WX} {es : E} {e : Expr} {ops : List Expr}
theorem all1 {a : Expr} (h : AllPE cf eo fa X W es [a]) : ∃ a', es = .cons a' .nil ∧ PE X a (rdE cf eo X.K fa W a') ∧ notStar a = true := by
  rcases h.shape with ⟨_, z⟩ | ⟨a', b', x, xs, rfl, z, h1, h2⟩
  · cases z
  · cases z
    rcases h2.shape with ⟨rfl, _⟩ | ⟨_, _, _, _, _, z, _⟩
    · exact ⟨a', rfl, h1.1, h1.2⟩
    · cases z
theorem all2 {a b : Expr} (h : AllPE cf eo fa X W es [a, b]) : ∃ a' b', es = .cons a' (.cons b' .nil) ∧ PE X a (rdE cf eo X.K fa W a') ∧ PE X b (rdE cf eo X.K fa W b') := by
  rcases h.shape with ⟨_, z⟩ | ⟨a', r', x, xs, rfl, z, h1, h2⟩
  · cases z
  · cases z
    obtain ⟨b', rfl, h3, _⟩ := all1 h2
    exact ⟨a', b', rfl, h1.1, h3⟩
theorem all3 {a b c : Expr} (h : AllPE cf eo fa X W es [a, b, c]) : ∃ a' b' c', es = .cons a' (.cons b' (.cons c' .nil)) ∧ PE X a (rdE cf eo X.K fa W a') ∧ PE X b (rdE cf eo X.K fa W b') ∧ PE X c (rdE cf eo X.K fa W c') := by
  rcases h.shape with ⟨_, z⟩ | ⟨a', r', x, xs, rfl, z, h1, h2⟩
  · cases z
  · cases z
    obtain ⟨b', c', rfl, h3, h4⟩ := all2 h2
    exact ⟨a', b', c', rfl, h1.1, h3, h4⟩
theorem bin_snd {b : Bi} {op : Operator} {l r : Expr} {p : Pos} {ev : D → D → M D} (hev : ∀ d e, biV b [d, e] = ev d e) (ho : OpR X (binaryOp op) (rV eo X.K fa ev)) (h : AllPE cf eo fa X W es [l, r]) : PE X (.BinOp l op r p) (rdE cf eo X.K fa W (.bi b es)) := by
  obtain ⟨a', b', rfl, h1, h2⟩ := all2 h
  refine PE.weak (pe_op ho h1 h2) fun σ H Q q => ?_
  obtain ⟨ρ, st, φ, hid, hE, hS, w⟩ := rd2 q
  refine ⟨ρ, st, φ, hid, hE, hS, w.imp fun d st' φ' H' c v r1 => ?_⟩
  obtain ⟨ρ, st, φ, hid, hE, hS, w⟩ := c v r1
  refine ⟨ρ, st, φ, hid, hE, hS, w.imp fun d st' φ' H' c v r1 => ?_⟩
  obtain ⟨φ, hid, st, d, e, S, r1, r2, w⟩ := c v r1
  rw [hev] at w
  exact ⟨φ, hid, st, d, e, W, σ, S, r1, r2, w⟩
theorem cmp_snd {b : Bi} {op : CmpOp} {l r : Expr} {p : Pos} {ev : D → D → M D} (hev : ∀ d e, biV b [d, e] = ev d e) (ho : OpR X (compareOp op) (rV eo X.K fa ev)) (hm : notSet r = true) (h : AllPE cf eo fa X W es [l, r]) : PE X (.Compare l [op] [r] p) (rdE cf eo X.K fa W (.bi b es)) := by
  obtain ⟨a', b', rfl, h1, h2⟩ := all2 h
  refine PE.weak (pe_cmpR ho h1 h2 (behind_of hm)) fun σ H Q q => ?_
  obtain ⟨ρ, st, φ, hid, hE, hS, w⟩ := rd2 q
  refine ⟨ρ, st, φ, hid, hE, hS, w.imp fun d st' φ' H' c v r1 => ?_⟩
  obtain ⟨ρ, st, φ, hid, hE, hS, w⟩ := c v r1
  refine ⟨ρ, st, φ, hid, hE, hS, w.imp fun d st' φ' H' c v r1 => ?_⟩
  obtain ⟨φ, hid, st, d, e, S, r1, r2, w⟩ := c v r1
  rw [hev] at w
  exact ⟨φ, hid, st, d, e, W, σ, S, r1, r2, w⟩
theorem one_snd {b : Bi} {a : Expr} {t : V → Hp → VK → Prop} (mk : ∀ {ta : TE}, PE X a ta → PE X e (fun σ H Q => ta σ H fun x H1 => t x H1 Q))
    (ht : ∀ {φ hid st d σ H x Q}, StoreOk X.K fa st φ hid H → Rep X.K fa φ hid H d x → Wn eo X.K fa W σ φ hid H (biV b [d] st) (CE X.K fa hid Q) → t x H Q) (h : AllPE cf eo fa X W es [a]) : PE X e (rdE cf eo X.K fa W (.bi b es)) := by
  obtain ⟨a', rfl, h1, _⟩ := all1 h
  refine PE.weak (mk h1) fun σ H Q q => ?_
  obtain ⟨ρ, st, φ, hid, hE, hS, w⟩ := rd1 q
  refine ⟨ρ, st, φ, hid, hE, hS, w.imp fun d st' φ' H' c v r1 => ?_⟩
  obtain ⟨φ, hid, st, d, S, r1, w⟩ := c v r1
  exact ht S r1 w
theorem callB_snd (G : Good T fa eo k N sc X) {b : Bi} {x : Str} {p p2 : Pos} {n : String} {as : List Expr} {r : List V → Hp → VK → Prop} (hc : CallR X (.builtin n) r) (hv : bootBuiltins n = some (.builtin n)) (hx : isBl T sc x n = true) (hn : (n : Str) ≠ "__name__") (hd : ((n : Str) == ("__debug__" : Str)) = false)
    (hr : ∀ {φ hid st ds σ H vs Q}, StoreOk X.K fa st φ hid H → Reps X.K fa φ hid H ds vs → Wn eo X.K fa W σ φ hid H (biV b ds st) (CE X.K fa hid Q) → r vs H Q) (hne : as ≠ []) (h : AllPE cf eo fa X W es as) : PE X (.Call (.Name x p) as [] p2) (rdE cf eo X.K fa W (.bi b es)) := by
  obtain ⟨rfl, hg, hm⟩ := isBl_of hx
  have pl := h.plain
  cases as with
  | nil => exact absurd rfl hne
  | cons a as =>
    rw [List.all_cons, Bool.and_eq_true] at pl
    refine PE.weak (pe_callB hc (G.gl hg) (G.glb.bl _ hm) hv h.pa hn hd (star_cons pl.1) (star_plain pl.2)) fun σ H Q q => ?_
    obtain ⟨ρ, st, φ, hid, hE, hS, w⟩ := rdAs q
    refine ⟨ρ, st, φ, hid, hE, hS, w.imp fun xs st' φ' H' c vs r1 => ?_⟩
    obtain ⟨φ, hid, st, ds, S, r1, w⟩ := c vs r1
    exact hr S r1 w
theorem callT_snd (G : Good T fa eo k N sc X) {b : Bi} {x : Str} {p p2 : Pos} {n : String} {as : List Expr} {r : List V → Hp → VK → Prop} (hc : CallR X (.type n) r) (hv : bootBuiltins n = some (.type n)) (hx : isBl T sc x n = true) (hn : (n : Str) ≠ "__name__") (hd : ((n : Str) == ("__debug__" : Str)) = false)
    (hr : ∀ {φ hid st ds σ H vs Q}, StoreOk X.K fa st φ hid H → Reps X.K fa φ hid H ds vs → Wn eo X.K fa W σ φ hid H (biV b ds st) (CE X.K fa hid Q) → r vs H Q) (hne : as ≠ []) (h : AllPE cf eo fa X W es as) : PE X (.Call (.Name x p) as [] p2) (rdE cf eo X.K fa W (.bi b es)) := by
  obtain ⟨rfl, hg, hm⟩ := isBl_of hx
  have pl := h.plain
  cases as with
  | nil => exact absurd rfl hne
  | cons a as =>
    rw [List.all_cons, Bool.and_eq_true] at pl
    refine PE.weak (pe_callTy hc (G.gl hg) (G.glb.bl _ hm) hv h.pa hn hd (star_cons pl.1) (star_plain pl.2)) fun σ H Q q => ?_
    obtain ⟨ρ, st, φ, hid, hE, hS, w⟩ := rdAs q
    refine ⟨ρ, st, φ, hid, hE, hS, w.imp fun xs st' φ' H' c vs r1 => ?_⟩
    obtain ⟨φ, hid, st, ds, S, r1, w⟩ := c vs r1
    exact hr S r1 w
/-- a list's method -/
theorem meth_rd {b : Bi} {o' r' : E} {ev : D → List D → M D} (hev : ∀ d ds, biV b (d :: ds) = ev d ds ∨ biV b (d :: ds) = stuck) {σ : L2.St} {H : Hp} {Q : VK} (q : rdE cf eo X.K fa W (.mth b o' r') σ H Q) :
    rdE cf eo X.K fa W o' σ H fun x H1 => tyV X.K "list" x H1 ∧ rdA cf eo X.K fa W r' σ H1 fun vs H2 => rM eo X.K fa ev x vs H2 Q := by
  obtain ⟨ρ, st, φ, hid, hE, hS, w⟩ := q
  have w' : Wn eo X.K fa W σ φ hid H ((evE cf o' ρ >>= fun d => isLst d >>= fun _ => evE cf r' ρ >>= fun r => tupOf r >>= fun ds => biV b (d :: ds)) st) (CE X.K fa hid Q) := w
  refine rdE_bind hE hS w' fun d st1 φ1 H1 v hE1 hS1 r1 x1 w1 => ?_
  have w2 : Wn eo X.K fa W σ φ1 hid H1 (match lstOf st1 d with
    | some _ => (evE cf r' ρ >>= fun r => tupOf r >>= fun ds => biV b (d :: ds)) st1
    | none => .stuck) (CE X.K fa hid Q) := by
    have e1 : (isLst d >>= fun _ => evE cf r' ρ >>= fun r => tupOf r >>= fun ds => biV b (d :: ds)) st1 = (match lstOf st1 d with
      | some _ => (evE cf r' ρ >>= fun r => tupOf r >>= fun ds => biV b (d :: ds)) st1
      | none => .stuck) := by
      show M.bind (isLst d) _ st1 = _
      unfold M.bind isLst
      cases lstOf st1 d <;> rfl
    rw [← e1]; exact w1
  cases hq : lstOf st1 d with
  | none => rw [hq] at w2; exact w2.elim
  | some ys =>
    rw [hq] at w2
    obtain ⟨a, vs, rfl, t, rs⟩ := lst_at hS1 r1 hq
    exact ⟨.inl ⟨rfl, vs, .inl (.inl t)⟩, rdA_bind hE1 hS1 w2 fun ds st2 φ2 H2 vs hE2 hS2 r2 x2 w2 => by
      rcases hev d ds with hv | hv
      · rw [hv] at w2
        exact ⟨φ2, hid, st2, d, ds, W, σ, hS2, r1.ext x2, r2, w2⟩
      · rw [hv] at w2
        exact w2.elim⟩
theorem few_of {env : Env} {pos : Pos} : ∀ {es : List Expr}, es.all notStar = true → (backTo pos (starEach es env)).all (fun x => !x.1) = true
  | [], _ => rfl
  | e :: es, h => by
    rw [List.all_cons, Bool.and_eq_true] at h
    rw [star_cons h.1]
    show (true && (backTo pos (starEach es env)).all (fun x => !x.1)) = true
    rw [few_of h.2]; rfl
theorem meth_snd {b : Bi} {o : Expr} {o' : E} {n : Str} {id : String} {args : List Expr} {ap cp : Pos} {ev : D → List D → M D} (slot : Slot "list" n id) (hty : typeOf (.builtin id) = pure (.type "method_descriptor")) (hm : MtR X id (rM eo X.K fa ev)) (hev : ∀ d ds, biV b (d :: ds) = ev d ds ∨ biV b (d :: ds) = stuck)
    (ho : plainObj o = true) (hl : (ap.endLine == cp.line) = true) (hfew : args.length < 20) (h0 : PE X o (rdE cf eo X.K fa W o')) (h : AllPE cf eo fa X W es args) :
    PE X (.Call (.Attribute o n ap) args [] cp) (rdE cf eo X.K fa W (.mth b o' es)) := by
  have pl := h.plain
  cases args with
  | nil =>
    refine PE.weak (pe_bm0 F.plainAttrs_list slot hty hm h0 (base_of ho) hl) fun σ H Q q => ?_
    rcases h.shape with ⟨rfl, _⟩ | ⟨_, _, _, _, _, z, _⟩
    · obtain ⟨ρ, st, φ, hid, hE, hS, w⟩ := meth_rd hev q
      refine ⟨ρ, st, φ, hid, hE, hS, w.imp fun xs st' φ' H' c vs r1 => ?_⟩
      obtain ⟨c1, ρ, st, φ, hid, hE, hS, w⟩ := c vs r1
      exact ⟨c1, w _ _ .refl hS _ .nil⟩
    · cases z
  | cons a as =>
    rw [List.all_cons, Bool.and_eq_true] at pl
    refine PE.weak (pe_bm F.plainAttrs_list slot hty hm h0 h.pa (base_of ho) ?_ hl (star_cons pl.1) (star_plain pl.2)) fun σ H Q q => meth_rd hev q
    rw [few_of (es := a :: as) (by rw [List.all_cons, pl.1, pl.2]; rfl)]
    simp only [Bool.true_and]
    show (true && decide _) = true
    rw [Bool.true_and]
    exact decide_eq_true (by show (a :: as).length + 0 + 0 < 30; omega)
end
end PC
set_option Elab.async false
set_option linter.all false
set_option maxRecDepth 100000
set_option maxHeartbeats 4000000
namespace PC
open PySem PySem.Spec L2
theorem no1 {b : Bi} (h : ∀ d e r, biV b (d :: e :: r) = stuck) (h0 : biV b [] = stuck) : ∀ ds, ds.length ≠ 1 → biV b ds = stuck
  | [], _ => h0
  | [_], n => absurd rfl n
  | d :: e :: r, _ => h d e r
theorem no2 {b : Bi} (h0 : biV b [] = stuck) (h1 : ∀ d, biV b [d] = stuck) (h : ∀ d e f r, biV b (d :: e :: f :: r) = stuck) : ∀ ds, ds.length ≠ 2 → biV b ds = stuck
  | [], _ => h0
  | [d], _ => h1 d
  | [_, _], n => absurd rfl n
  | d :: e :: f :: r, _ => h d e f r
section
variable {cf : Nat → List D → M D} {T : Tab} {sc : Scope} {k : Nat} {N : List Str} {X : Cx} {fa : Nat → Addr} {eo : Nat → Option (Value × Option Str)} {W : WX} {es : E} {e : Expr} {ops : List Expr}
def tyV1 : D → Option String
  | .non => some "NoneType"
  | .bl _ => some "bool"
  | .int _ => some "int"
  | .str _ => some "str"
  | .tup _ => some "tuple"
  | .lst _ => some "list"
  | .ref _ => some "list"
  | _ => none
theorem tyX_of {K : PySem.W.Frag} {φ hid : List Addr} {H : Hp} {st : Store} {d : D} {x : V} {us : List Ty} (s : StoreOk K fa st φ hid H) (r : Rep K fa φ hid H d x) (h : tyOf st d = some us) : ∃ t, tyV1 d = some t ∧ TyX K H x (.type t) := by
  cases r with
  | non => exact ⟨_, rfl, .base .non⟩
  | bl b => exact ⟨_, rfl, .base (.bl b)⟩
  | int i => exact ⟨_, rfl, .base (.int i)⟩
  | str z => exact ⟨_, rfl, .base (.str z)⟩
  | tup t rs =>
    rcases t with ⟨t, _⟩ | ⟨o, its, n, h1, h2, _⟩
    · exact ⟨_, rfl, .base (.tup t)⟩
    · exact ⟨_, rfl, .kTuple h1 h2⟩
  | lst t n m rs => exact ⟨_, rfl, .base (.lst t)⟩
  | @ref n a hn =>
    have h' : (match st[n]? with | some (.lst _) => some [Ty.list] | none => none) = some us := h
    cases q : st[n]? with
    | none => rw [q] at h'; cases h'
    | some c =>
      cases c with
      | lst ys =>
        obtain ⟨b, vs, h1, h2, h3⟩ := s.cell n _ q
        rw [hn] at h1; cases h1
        exact ⟨_, rfl, .base (.lst h2)⟩
  | _ => cases h
theorem kit_one {K : PySem.W.Frag} {st : Store} {d : D} {us : List Ty} {t : String} (h : tyOf st d = some us) (ht : tyV1 d = some t) (y : Ty) : PySem.W.kitOne K (.type t) (.type (tyName y)) = some (us.any fun u => [y].contains u) := by
  have key : ∀ (d : D) (us : List Ty) (t : String), tyOf st d = some us → tyV1 d = some t → us = (match t with | "bool" => [.bool, .int] | "int" => [.int] | "str" => [.str] | "tuple" => [.tuple] | "list" => [.list] | _ => []) ∧ (t = "NoneType" ∨ t = "bool" ∨ t = "int" ∨ t = "str" ∨ t = "tuple" ∨ t = "list") := by
    intro d us t h1 h2
    cases d with
    | non => cases h1; cases h2; exact ⟨rfl, .inl rfl⟩
    | bl _ => cases h1; cases h2; exact ⟨rfl, .inr (.inl rfl)⟩
    | int _ => cases h1; cases h2; exact ⟨rfl, .inr (.inr (.inl rfl))⟩
    | str _ => cases h1; cases h2; exact ⟨rfl, .inr (.inr (.inr (.inl rfl)))⟩
    | tup _ => cases h1; cases h2; exact ⟨rfl, .inr (.inr (.inr (.inr (.inl rfl))))⟩
    | lst _ => cases h1; cases h2; exact ⟨rfl, .inr (.inr (.inr (.inr (.inr rfl))))⟩
    | ref n =>
      have h' : (match st[n]? with | some (.lst _) => some [Ty.list] | none => none) = some us := h1
      cases q : st[n]? with
      | none => rw [q] at h'; cases h'
      | some c =>
        cases c with
        | lst ys => rw [q] at h'; cases h'; cases h2; exact ⟨rfl, .inr (.inr (.inr (.inr (.inr rfl))))⟩
    | fn _ => cases h1
    | lok _ => cases h1
  obtain ⟨e, q⟩ := key d us t h ht
  subst e
  rcases q with rfl | rfl | rfl | rfl | rfl | rfl <;> cases y <;> exact kit_ty (by decide +kernel)
theorem kit_any {K : PySem.W.Frag} {st : Store} {d : D} {us : List Ty} {t : String} (h : tyOf st d = some us) (ht : tyV1 d = some t) : ∀ ts : List Ty, PySem.W.kitAny K (.type t) (ts.map fun y => .type (tyName y)) = some (us.any fun u => ts.contains u)
  | [] => by
    have : (us.any fun u => ([] : List Ty).contains u) = false := by simp
    rw [this]; exact kitAny_nil
  | y :: ts => by
    refine kitAny_cons (kit_one h ht y) (fun hb => ?_) (fun hb => ?_)
    · rw [kit_any h ht ts]
      congr 1
      rw [Bool.eq_iff_iff, List.any_eq_true, List.any_eq_true]
      rw [List.any_eq_false] at hb
      constructor
      · rintro ⟨u, hu, hc⟩
        exact ⟨u, hu, by simp at hc ⊢; exact .inr hc⟩
      · rintro ⟨u, hu, hc⟩
        have := hb u hu
        refine ⟨u, hu, ?_⟩
        simp at hc this ⊢
        rcases hc with hc | hc
        · exact absurd hc this
        · exact hc
    · rw [List.any_eq_true] at hb ⊢
      obtain ⟨u, hu, hc⟩ := hb
      exact ⟨u, hu, by simp at hc ⊢; exact .inl hc⟩
theorem boot_ty (y : Ty) : bootBuiltins (tyName y) = some (.type (tyName y)) := by cases y <;> decide +kernel
theorem isin_at {K : PySem.W.Frag} {φ hid : List Addr} {H : Hp} {st : Store} {d : D} {x : V} {ts : List Ty} {σ : L2.St} {Q : VK} (S : StoreOk K fa st φ hid H) (r : Rep K fa φ hid H d x) (w : Wn eo K fa W σ φ hid H (biV (.isinst ts) [d] st) (CE K fa hid Q)) :
    ∃ us t, tyOf st d = some us ∧ tyV1 d = some t ∧ TyX K H x (.type t) ∧ Wn eo K fa W σ φ hid H (.ok (.bl (us.any fun u => ts.contains u)) st) (CE K fa hid Q) := by
  have w' : Wn eo K fa W σ φ hid H (match tyOf st d with
    | some us => .ok (.bl (us.any fun u => ts.contains u)) st
    | none => .stuck) (CE K fa hid Q) := w
  cases q : tyOf st d with
  | none => rw [q] at w'; exact w'.elim
  | some us =>
    rw [q] at w'
    obtain ⟨t, h1, h2⟩ := tyX_of S r q
    exact ⟨us, t, rfl, h1, h2, w'⟩
theorem isi1_snd (G : Good T fa eo k N sc X) {x y : Str} {a : Expr} {p p2 p3 : Pos} {t : Ty} (hx : isBl T sc x "isinstance" = true) (hy : isBl T sc y (tyName t) = true) (h : AllPE cf eo fa X W es [a]) : PE X (.Call (.Name x p) [a, .Name y p2] [] p3) (rdE cf eo X.K fa W (.bi (.isinst [t]) es)) := by
  obtain ⟨a', rfl, h1, ns⟩ := all1 h
  obtain ⟨rfl, hg, hm⟩ := isBl_of hx
  obtain ⟨rfl, hg2, hm2⟩ := isBl_of hy
  have hT : PE X (.Name (tyName t : Str) p2) (tC (.ty (tyName t))) := pe_bltn (G.gl hg2) (G.glb.bl _ hm2) (boot_ty t) rfl (by cases t <;> decide) (by cases t <;> decide)
  refine PE.weak (pe_callB call_isi (G.gl hg) (G.glb.bl _ hm) PyProof.Rows.boot_isinstance (pa_cons h1 (pa_cons hT pa_nil)  (star_cons ns)) (by decide) (by decide) (star_cons ns)) fun σ H Q q => ?_
  obtain ⟨ρ, st, φ, hid, hE, hS, w⟩ := rd1 q
  refine ⟨ρ, st, φ, hid, hE, hS, w.imp fun d st' φ' H' c v r1 => ?_⟩
  obtain ⟨φ, hid, st, d, S, r1, w⟩ := c v r1
  obtain ⟨us, tt, q1, q2, q3, w⟩ := isin_at S r1 w
  exact ⟨v, .ty (tyName t), .type tt, .type (tyName t), _, rfl, .ty _, q3, kit_one q1 q2 t, Wn.val S (.bl _) w⟩
theorem tys_pa (G : Good T fa eo k N sc X) : ∀ {ts : List Ty} {es : List Expr}, tysOf T sc ts es = true → PA X es (fun σ H Q => Q (ts.map fun y => V.ty (tyName y)) H)
  | [], [], _ => pa_nil
  | t :: ts, .Name x p :: es, h => by
    have h' : (isBl T sc x (tyName t) && tysOf T sc ts es) = true := h
    rw [Bool.and_eq_true] at h'
    obtain ⟨rfl, hg, hm⟩ := isBl_of h'.1
    have hT : PE X (.Name (tyName t : Str) p) (tC (.ty (tyName t))) := pe_bltn (G.gl hg) (G.glb.bl _ hm) (boot_ty t) rfl (by cases t <;> decide) (by cases t <;> decide)
    exact pa_cons hT (tys_pa G h'.2)
  | [], _ :: _, h => nomatch h
  | _ :: _, [], h => nomatch h
  | _ :: _, .BoolOp .. :: _, h | _ :: _, .NamedExpr .. :: _, h | _ :: _, .BinOp .. :: _, h | _ :: _, .UnaryOp .. :: _, h | _ :: _, .Lambda .. :: _, h | _ :: _, .IfExp .. :: _, h | _ :: _, .Dict .. :: _, h | _ :: _, .Set .. :: _, h | _ :: _, .ListComp .. :: _, h | _ :: _, .SetComp .. :: _, h | _ :: _, .DictComp .. :: _, h | _ :: _, .GeneratorExp .. :: _, h | _ :: _, .Await .. :: _, h | _ :: _, .Yield .. :: _, h | _ :: _, .YieldFrom .. :: _, h | _ :: _, .Compare .. :: _, h | _ :: _, .Call .. :: _, h | _ :: _, .FormattedValue .. :: _, h | _ :: _, .JoinedStr .. :: _, h | _ :: _, .Constant .. :: _, h | _ :: _, .Attribute .. :: _, h | _ :: _, .Subscript .. :: _, h | _ :: _, .Starred .. :: _, h | _ :: _, .List .. :: _, h | _ :: _, .Tuple .. :: _, h | _ :: _, .Slice .. :: _, h => nomatch h
theorem cls_of : ∀ ts : List Ty, Paired ClsV (ts.map fun y => V.ty (tyName y)) (ts.map fun y => Value.type (tyName y))
  | [] => .nil
  | t :: ts => .cons (.ty _) (cls_of ts)
theorem isiT_snd (G : Good T fa eo k N sc X) {x : Str} {a : Expr} {p p2 p3 : Pos} {kk : Nat} {ts : List Ty} {tes : List Expr} (hl : ts.length ≤ 1000) (hx : isBl T sc x "isinstance" = true) (hy : tysOf T sc ts tes = true) (h : AllPE cf eo fa X W es [a]) : PE X (.Call (.Name x p) [a, .Tuple tes kk p2] [] p3) (rdE cf eo X.K fa W (.bi (.isinst ts) es)) := by
  obtain ⟨a', rfl, h1, ns⟩ := all1 h
  obtain ⟨rfl, hg, hm⟩ := isBl_of hx
  have hT : PE X (.Tuple tes kk p2) _ := pe_tup (tys_pa G hy)
  refine PE.weak (pe_callB call_isiT (G.gl hg) (G.glb.bl _ hm) PyProof.Rows.boot_isinstance (pa_cons h1 (pa_cons hT pa_nil) (star_cons ns)) (by decide) (by decide) (star_cons ns)) fun σ H Q q => ?_
  obtain ⟨ρ, st, φ, hid, hE, hS, w⟩ := rd1 q
  refine ⟨ρ, st, φ, hid, hE, hS, w.imp fun d st' φ' H' c v r1 => ?_⟩
  obtain ⟨φ, hid, st, d, S, r1, w⟩ := c v r1
  refine ⟨by rw [List.length_map]; exact Nat.le_of_lt (small1000 hl), fun tp htp => ?_⟩
  have r2 := r1.ext (.new (o := .tup (ts.map fun y => V.ty (tyName y))) htp)
  have S2 := S.new (o := .tup (ts.map fun y => V.ty (tyName y))) htp
  obtain ⟨us, tt, q1, q2, q3, w⟩ := isin_at S r1 w
  obtain ⟨tt2, q2', q3'⟩ := tyX_of S2 r2 q1
  rw [q2] at q2'; cases q2'
  exact ⟨v, tp, _, .type tt, _, _, rfl, upd_same, cls_of ts, q3', kit_any q1 q2 ts, w _ _ (.new htp) S2 _ (.bl _)⟩
theorem formNeg_of (h : formNeg e = some ops) : ∃ a p, e = .UnaryOp .USub a p ∧ ops = [a] := by
  unfold formNeg at h
  split at h
  · cases h; exact ⟨_, _, rfl, rfl⟩
  · cases h
theorem formIsN_of (h : formIsN e = some ops) : ∃ a k1 p1 p, e = .Compare a [.Is] [.Constant .none k1 p1] p ∧ ops = [a] := by
  unfold formIsN at h
  split at h
  · cases h; exact ⟨_, _, _, _, rfl, rfl⟩
  · cases h
theorem formIsNN_of (h : formIsNN e = some ops) : ∃ a k1 p1 p, e = .Compare a [.IsNot] [.Constant .none k1 p1] p ∧ ops = [a] := by
  unfold formIsNN at h
  split at h
  · cases h; exact ⟨_, _, _, _, rfl, rfl⟩
  · cases h
theorem formIsB_of {b : Bool} (h : formIsB b e = some ops) : ∃ a k1 p1 p, e = .Compare a [.Is] [.Constant (.bool b) k1 p1] p ∧ ops = [a] := by
  unfold formIsB at h
  split at h
  · split at h
    · rename_i hb; have hb := of_decide_eq_true hb; subst hb; cases h; exact ⟨_, _, _, _, rfl, rfl⟩
    · cases h
  · cases h
theorem formIsNB_of {b : Bool} (h : formIsNB b e = some ops) : ∃ a k1 p1 p, e = .Compare a [.IsNot] [.Constant (.bool b) k1 p1] p ∧ ops = [a] := by
  unfold formIsNB at h
  split at h
  · split at h
    · rename_i hb; have hb := of_decide_eq_true hb; subst hb; cases h; exact ⟨_, _, _, _, rfl, rfl⟩
    · cases h
  · cases h
theorem formIdx_of (h : formIdx e = some ops) : ∃ a i p, e = .Subscript a i p ∧ ops = [a, i] ∧ notSlice i = true := by
  unfold formIdx at h
  split at h
  · split at h
    · rename_i hb; cases h; exact ⟨_, _, _, rfl, rfl, hb⟩
    · cases h
  · cases h
theorem formRev_of (h : formRev e = some ops) : ∃ a k1 p1 p2 p3 p, e = .Subscript a (.Slice none none (some (.UnaryOp .USub (.Constant (.int 1) k1 p1) p2)) p3) p ∧ ops = [a] := by
  unfold formRev at h
  split at h
  · cases h; exact ⟨_, _, _, _, _, _, rfl, rfl⟩
  · cases h
theorem formIsi_of {ts : List Ty} (h : formIsi T sc ts e = some ops) : (∃ x p a y p2 p3 t, e = .Call (.Name x p) [a, .Name y p2] [] p3 ∧ ops = [a] ∧ ts = [t] ∧ isBl T sc x "isinstance" = true ∧ isBl T sc y (tyName t) = true) ∨
    (∃ x p a tes kk p2 p3, e = .Call (.Name x p) [a, .Tuple tes kk p2] [] p3 ∧ ops = [a] ∧ isBl T sc x "isinstance" = true ∧ tysOf T sc ts tes = true ∧ ts.length ≤ 1000) := by
  unfold formIsi at h
  split at h
  · split at h
    · split at h
      · rename_i hb
        rw [Bool.and_eq_true] at hb
        cases h
        exact .inl ⟨_, _, _, _, _, _, _, rfl, rfl, rfl, hb.1, hb.2⟩
      · cases h
    · cases h
  · split at h
    · rename_i hb
      rw [Bool.and_eq_true, Bool.and_eq_true] at hb
      cases h
      exact .inr ⟨_, _, _, _, _, _, _, rfl, rfl, hb.1.1, hb.1.2, of_decide_eq_true hb.2⟩
    · cases h
  · cases h
theorem Rep.isnon {K : PySem.W.Frag} {φ hid : List Addr} {H : Hp} {d : D} {x : V} (r : Rep K fa φ hid H d x) : decide (d = D.non) = decide (x = V.non) := by
  cases r <;> first | rfl | (rw [decide_eq_false (by simp), decide_eq_false (by simp)])
/-- THE OPERATIONS -/
theorem bi_snd (G : Good T fa eo k N sc X) {b : Bi} (hf : formOf T sc b e = some ops) (h : AllPE cf eo fa X W es ops) : PE X e (rdE cf eo X.K fa W (.bi b es)) := by
  cases b with
  | add c => obtain ⟨l, r, p, rfl, rfl⟩ := bin1_of hf; exact bin_snd (fun _ _ => rfl) addD h
  | sub => obtain ⟨l, r, p, rfl, rfl⟩ := bin1_of hf; exact bin_snd (fun _ _ => rfl) subD h
  | mul c => obtain ⟨l, r, p, rfl, rfl⟩ := bin1_of hf; exact bin_snd (fun _ _ => rfl) mulD h
  | fdiv => obtain ⟨l, r, p, rfl, rfl⟩ := bin1_of hf; exact bin_snd (fun _ _ => rfl) fdivD h
  | mod => obtain ⟨l, r, p, rfl, rfl⟩ := bin1_of hf; exact bin_snd (fun _ _ => rfl) modD h
  | eq => obtain ⟨l, r, p, rfl, rfl, hn⟩ := cmp1_of hf; exact cmp_snd (fun _ _ => rfl) (eqD (by have := G.hu; omega)) hn h
  | ne => obtain ⟨l, r, p, rfl, rfl, hn⟩ := cmp1_of hf; exact cmp_snd (fun _ _ => rfl) (neD (by have := G.hu; omega)) hn h
  | lt => obtain ⟨l, r, p, rfl, rfl, hn⟩ := cmp1_of hf; exact cmp_snd (fun _ _ => rfl) ltD hn h
  | le => obtain ⟨l, r, p, rfl, rfl, hn⟩ := cmp1_of hf; exact cmp_snd (fun _ _ => rfl) leD hn h
  | gt => obtain ⟨l, r, p, rfl, rfl, hn⟩ := cmp1_of hf; exact cmp_snd (fun _ _ => rfl) gtD hn h
  | ge => obtain ⟨l, r, p, rfl, rfl, hn⟩ := cmp1_of hf; exact cmp_snd (fun _ _ => rfl) geD hn h
  | inn => obtain ⟨l, r, p, rfl, rfl, hn⟩ := cmp1_of hf; exact cmp_snd (fun _ _ => rfl) (inD G.hu) hn h
  | nin => obtain ⟨l, r, p, rfl, rfl, hn⟩ := cmp1_of hf; exact cmp_snd (fun _ _ => rfl) (ninD G.hu) hn h
  | neg =>
    obtain ⟨a, p, rfl, rfl⟩ := formNeg_of hf
    exact one_snd (t := fun x H Q => ∃ φ hid st d W σ, StoreOk X.K fa st φ hid H ∧ Rep X.K fa φ hid H d x ∧ Wn eo X.K fa W σ φ hid H (biV .neg [d] st) (CE X.K fa hid Q)) (fun ha => pe_un negD ha) (fun S r w => ⟨_, _, _, _, _, _, S, r, w⟩) h
  | isN =>
    obtain ⟨a, k1, p1, p, rfl, rfl⟩ := formIsN_of hf
    exact one_snd (t := fun x H Q => Q (.bl (decide (x = .non))) H) (fun ha => pe_cmp (pc_isN ha)) (fun {φ hid st d σ H x Q} S r w => by
      have w' : Wn eo X.K fa W σ φ hid H (.ok (.bl (false ^^ decide (d = D.non))) st) (CE X.K fa hid Q) := w
      rw [r.isnon, Bool.false_xor] at w'
      exact Wn.val S (.bl _) w') h
  | isNN =>
    obtain ⟨a, k1, p1, p, rfl, rfl⟩ := formIsNN_of hf
    exact one_snd (t := fun x H Q => Q (.bl (!decide (x = .non))) H) (fun ha => pe_cmp (pc_notN ha)) (fun {φ hid st d σ H x Q} S r w => by
      have w' : Wn eo X.K fa W σ φ hid H (.ok (.bl (true ^^ decide (d = D.non))) st) (CE X.K fa hid Q) := w
      rw [r.isnon, Bool.true_xor] at w'
      exact Wn.val S (.bl _) w') h
  | isB bb =>
    obtain ⟨a, k1, p1, p, rfl, rfl⟩ := formIsB_of hf
    exact one_snd (t := fun x H Q => rIsB x (.bl bb) H Q) (fun ha => pe_cmpR op_isBl ha pe_bl rfl) (fun {φ hid st d σ H x Q} S r w => by
      cases r with
      | bl c =>
        have z := Wn.val S (.bl _) (show Wn eo X.K fa W σ φ hid H (.ok (.bl (false ^^ decide (c = bb))) st) (CE X.K fa hid Q) from w)
        rw [Bool.false_xor] at z
        exact ⟨c, _, rfl, rfl, z⟩
      | _ => exact w.elim) h
  | isNB bb =>
    obtain ⟨a, k1, p1, p, rfl, rfl⟩ := formIsNB_of hf
    exact one_snd (t := fun x H Q => rNotB x (.bl bb) H Q) (fun ha => pe_cmpR op_notBl ha pe_bl rfl) (fun {φ hid st d σ H x Q} S r w => by
      cases r with
      | bl c =>
        have z := Wn.val S (.bl _) (show Wn eo X.K fa W σ φ hid H (.ok (.bl (true ^^ decide (c = bb))) st) (CE X.K fa hid Q) from w)
        rw [Bool.true_xor] at z
        exact ⟨c, _, rfl, rfl, z⟩
      | _ => exact w.elim) h
  | idx =>
    obtain ⟨a, i, p, rfl, rfl, hb⟩ := formIdx_of hf
    obtain ⟨a', b', rfl, h1, h2⟩ := all2 h
    refine PE.weak (pe_ix (idxD (eo := eo) (fa := fa)) h1 h2 (plainIx_of hb)) fun σ H Q q => ?_
    obtain ⟨ρ, st, φ, hid, hE, hS, w⟩ := rd2 q
    refine ⟨ρ, st, φ, hid, hE, hS, w.imp fun d st' φ' H' c v r1 => ?_⟩
    obtain ⟨ρ, st, φ, hid, hE, hS, w⟩ := c v r1
    refine ⟨ρ, st, φ, hid, hE, hS, w.imp fun d st' φ' H' c v r1 => ?_⟩
    obtain ⟨φ, hid, st, d, e, S, r1, r2, w⟩ := c v r1
    exact ⟨φ, hid, st, d, e, W, σ, S, r1, r2, w⟩
  | rev c =>
    obtain ⟨a, k1, p1, p2, p3, p, rfl, rfl⟩ := formRev_of hf
    refine one_snd (t := fun x H Q => ∃ a xs, x = .ref a ∧ ((SqL X.K H a xs ∧ ∀ p, H p = none → Q (.ref p) (upd H p (.lst xs.reverse))) ∨ (SqT X.K H a xs ∧ ∀ p, H p = none → Q (.ref p) (upd H p (.tup xs.reverse))))) (fun ha => pe_revA ha) (fun {φ hid st d σ H x Q} S r w => ?_) h
    have gen : Wn eo X.K fa W σ φ hid H (match lstOf st d with
        | some xs => mkL c xs.reverse st
        | none => .stuck) (CE X.K fa hid Q) → ∃ a xs, x = .ref a ∧ ((SqL X.K H a xs ∧ ∀ p, H p = none → Q (.ref p) (upd H p (.lst xs.reverse))) ∨ (SqT X.K H a xs ∧ ∀ p, H p = none → Q (.ref p) (upd H p (.tup xs.reverse)))) := fun w => by
      cases q : lstOf st d with
      | none => rw [q] at w; exact w.elim
      | some ys =>
        rw [q] at w
        obtain ⟨a, vs, rfl, t, rs⟩ := lst_at S r q
        exact ⟨a, vs, rfl, .inl ⟨.inl (.inl t), Wn.mk S rs.reverse w⟩⟩
    cases r with
    | tup t rs => exact ⟨_, _, rfl, .inr ⟨t.sq, Wn.tup S rs.reverse w⟩⟩
    | _ => exact gen w
  | len => obtain ⟨x, p, a, p2, rfl, rfl, hx⟩ := call1_of hf; exact callB_snd G lenD boot_len hx (by decide) (by decide) (fun S r w => rb1 (fun _ => rfl) (no1 (fun _ _ _ => rfl) rfl) S r w) (by simp) h
  | abs => obtain ⟨x, p, a, p2, rfl, rfl, hx⟩ := call1_of hf; exact callB_snd G absD PyProof.Rows.boot_abs hx (by decide) (by decide) (fun S r w => rb1 (b := .abs) (fun _ => rfl) (no1 (fun d _ _ => by cases d <;> rfl) rfl) S r w) (by simp) h
  | int => obtain ⟨x, p, a, p2, rfl, rfl, hx⟩ := call1_of hf; exact callT_snd G intD PyProof.Rows.boot_int hx (by decide) (by decide) (fun S r w => rb1 (fun _ => rfl) (no1 (fun _ _ _ => rfl) rfl) S r w) (by simp) h
  | str => obtain ⟨x, p, a, p2, rfl, rfl, hx⟩ := call1_of hf; exact callT_snd G strD PyProof.Rows.boot_str hx (by decide) (by decide) (fun S r w => rb1 (fun _ => rfl) (no1 (fun _ _ _ => rfl) rfl) S r w) (by simp) h
  | sum => obtain ⟨x, p, a, p2, rfl, rfl, hx⟩ := call1_of hf; exact callB_snd G (sumD G.calm) PyProof.Rows.boot_sum hx (by decide) (by decide) (fun S r w => rb1 (fun _ => rfl) (no1 (fun _ _ _ => rfl) rfl) S r w) (by simp) h
  | tuple => obtain ⟨x, p, a, p2, rfl, rfl, hx⟩ := call1_of hf; exact callT_snd G tupleD PyProof.Rows.boot_tuple hx (by decide) (by decide) (fun S r w => rb1 (fun _ => rfl) (no1 (fun _ _ _ => rfl) rfl) S r w) (by simp) h
  | list c => obtain ⟨x, p, a, p2, rfl, rfl, hx⟩ := call1_of hf; exact callT_snd G (listD (c := c)) PyProof.Rows.boot_list hx (by decide) (by decide) (fun S r w => rb1 (fun _ => rfl) (no1 (fun _ _ _ => rfl) rfl) S r w) (by simp) h
  | all => obtain ⟨x, p, a, p2, rfl, rfl, hx⟩ := call1_of hf; exact callB_snd G (allD G.calm) PyProof.Rows.boot_all hx (by decide) (by decide) (fun S r w => rb1 (fun _ => rfl) (no1 (fun _ _ _ => rfl) rfl) S r w) (by simp) h
  | any => obtain ⟨x, p, a, p2, rfl, rfl, hx⟩ := call1_of hf; exact callB_snd G (anyD G.calm) PyProof.Rows.boot_any hx (by decide) (by decide) (fun S r w => rb1 (fun _ => rfl) (no1 (fun _ _ _ => rfl) rfl) S r w) (by simp) h
  | max => obtain ⟨x, p, a, b, p2, rfl, rfl, hx⟩ := call2_of hf; exact callB_snd G (maxD G.calm) PyProof.Rows.boot_max hx (by decide) (by decide) (fun S r w => rb2 (b := .max) (fun _ _ => rfl) (no2 rfl (fun d => by cases d <;> rfl) (fun d e _ _ => by cases d <;> cases e <;> rfl)) S r w) (by simp) h
  | min => obtain ⟨x, p, a, b, p2, rfl, rfl, hx⟩ := call2_of hf; exact callB_snd G (minD G.calm) PyProof.Rows.boot_min hx (by decide) (by decide) (fun S r w => rb2 (b := .min) (fun _ _ => rfl) (no2 rfl (fun d => by cases d <;> rfl) (fun d e _ _ => by cases d <;> cases e <;> rfl)) S r w) (by simp) h
  | append => cases hf
  | pop => cases hf
  | popAt => cases hf
  | isinst ts =>
    rcases formIsi_of hf with ⟨x, p, a, y, p2, p3, t, rfl, rfl, rfl, h1, h2⟩ | ⟨x, p, a, tes, kk, p2, p3, rfl, rfl, h1, h2, h3⟩
    · exact isi1_snd G h1 h2 h
    · exact isiT_snd G h3 h1 h2 h
end
end PC
set_option Elab.async false
set_option linter.all false
set_option maxRecDepth 100000
set_option maxHeartbeats 4000000
namespace PC
open PySem PySem.Spec L2
theorem PC.weak {X : Cx} {op : CmpOp} {a b : Expr} {t t' : TE} (h : L2.PC X op a b t) (i : ∀ σ H Q, t' σ H Q → t σ H Q) : L2.PC X op a b t' := ⟨fun pins s σ H Q I q => h.run pins s σ H Q I (i _ _ _ q)⟩
theorem pc_op {X : Cx} {op : CmpOp} {a b : Expr} {ta tb : TE} {r : R2} (ho : OpR X (compareOp op) r) (ha : PE X a ta) (hb : PE X b tb) : L2.PC X op a b (tOp r ta tb) :=
  ⟨fun pins s σ H Q I h => thn (ha.run pins s σ H _ I h) fun v s1 ⟨x, H1, I1, r1, q1⟩ => thn (hb.run pins s1 σ H1 _ I1 q1) fun u s2 ⟨y, H2, I2, r2, q2⟩ => ho pins s2 σ H2 x y v u Q I2 r1 r2 q2⟩
def isCmp : Bi → Bool
  | .eq | .ne | .lt | .le | .gt | .ge | .inn | .nin | .isN | .isNN | .isB _ | .isNB _ => true
  | _ => false
section
variable {cf : Nat → List D → M D} {T : Tab} {sc : Scope} {k : Nat} {N : List Str} {X : Cx} {fa : Nat → Addr} {eo : Nat → Option (Value × Option Str)} {W : WX} {es : E} {e : Expr} {ops : List Expr}
theorem cmpC_snd {b : Bi} {op : CmpOp} {l r : Expr} {ev : D → D → M D} (hev : ∀ d e, biV b [d, e] = ev d e) (ho : OpR X (compareOp op) (rV eo X.K fa ev)) (h : AllPE cf eo fa X W es [l, r]) : L2.PC X op l r (rdE cf eo X.K fa W (.bi b es)) := by
  obtain ⟨a', b', rfl, h1, h2⟩ := all2 h
  refine PC.weak (pc_op ho h1 h2) fun σ H Q q => ?_
  obtain ⟨ρ, st, φ, hid, hE, hS, w⟩ := rd2 q
  refine ⟨ρ, st, φ, hid, hE, hS, w.imp fun d st' φ' H' c v r1 => ?_⟩
  obtain ⟨ρ, st, φ, hid, hE, hS, w⟩ := c v r1
  refine ⟨ρ, st, φ, hid, hE, hS, w.imp fun d st' φ' H' c v r1 => ?_⟩
  obtain ⟨φ, hid, st, d, e, S, r1, r2, w⟩ := c v r1
  rw [hev] at w
  exact ⟨φ, hid, st, d, e, W, σ, S, r1, r2, w⟩
theorem oneC_snd {b : Bi} {a r : Expr} {op : CmpOp} {t : V → Hp → VK → Prop} (mk : ∀ {ta : TE}, PE X a ta → L2.PC X op a r (fun σ H Q => ta σ H fun x H1 => t x H1 Q))
    (ht : ∀ {φ hid st d σ H x Q}, StoreOk X.K fa st φ hid H → Rep X.K fa φ hid H d x → Wn eo X.K fa W σ φ hid H (biV b [d] st) (CE X.K fa hid Q) → t x H Q) (h : AllPE cf eo fa X W es [a]) : L2.PC X op a r (rdE cf eo X.K fa W (.bi b es)) := by
  obtain ⟨a', rfl, h1, _⟩ := all1 h
  refine PC.weak (mk h1) fun σ H Q q => ?_
  obtain ⟨ρ, st, φ, hid, hE, hS, w⟩ := rd1 q
  refine ⟨ρ, st, φ, hid, hE, hS, w.imp fun d st' φ' H' c v r1 => ?_⟩
  obtain ⟨φ, hid, st, d, S, r1, w⟩ := c v r1
  exact ht S r1 w
/-- a comparison's rule -/
def CmpR (cf : Nat → List D → M D) (eo : Nat → Option (Value × Option Str)) (fa : Nat → Addr) (X : Cx) (W : WX) (E : E) (e : Expr) : Prop := ∃ l op r p, e = .Compare l [op] [r] p ∧ behindInMarks op r = false ∧ L2.PC X op l r (rdE cf eo X.K fa W E)
theorem pc_snd (G : Good T fa eo k N sc X) {b : Bi} (hc : isCmp b = true) (hf : formOf T sc b e = some ops) (h : AllPE cf eo fa X W es ops) : CmpR cf eo fa X W (.bi b es) e := by
  cases b with
  | eq => obtain ⟨l, r, p, rfl, rfl, hn⟩ := cmp1_of hf; exact ⟨_, _, _, _, rfl, behind_of hn, cmpC_snd (fun _ _ => rfl) (eqD (by have := G.hu; omega)) h⟩
  | ne => obtain ⟨l, r, p, rfl, rfl, hn⟩ := cmp1_of hf; exact ⟨_, _, _, _, rfl, behind_of hn, cmpC_snd (fun _ _ => rfl) (neD (by have := G.hu; omega)) h⟩
  | lt => obtain ⟨l, r, p, rfl, rfl, hn⟩ := cmp1_of hf; exact ⟨_, _, _, _, rfl, behind_of hn, cmpC_snd (fun _ _ => rfl) ltD h⟩
  | le => obtain ⟨l, r, p, rfl, rfl, hn⟩ := cmp1_of hf; exact ⟨_, _, _, _, rfl, behind_of hn, cmpC_snd (fun _ _ => rfl) leD h⟩
  | gt => obtain ⟨l, r, p, rfl, rfl, hn⟩ := cmp1_of hf; exact ⟨_, _, _, _, rfl, behind_of hn, cmpC_snd (fun _ _ => rfl) gtD h⟩
  | ge => obtain ⟨l, r, p, rfl, rfl, hn⟩ := cmp1_of hf; exact ⟨_, _, _, _, rfl, behind_of hn, cmpC_snd (fun _ _ => rfl) geD h⟩
  | inn => obtain ⟨l, r, p, rfl, rfl, hn⟩ := cmp1_of hf; exact ⟨_, _, _, _, rfl, behind_of hn, cmpC_snd (fun _ _ => rfl) (inD G.hu) h⟩
  | nin => obtain ⟨l, r, p, rfl, rfl, hn⟩ := cmp1_of hf; exact ⟨_, _, _, _, rfl, behind_of hn, cmpC_snd (fun _ _ => rfl) (ninD G.hu) h⟩
  | isN =>
    obtain ⟨a, k1, p1, p, rfl, rfl⟩ := formIsN_of hf
    exact ⟨_, _, _, _, rfl, rfl, oneC_snd (t := fun x H Q => Q (.bl (decide (x = .non))) H) (fun ha => pc_isN ha) (fun {φ hid st d σ H x Q} S r w => by
      have w' : Wn eo X.K fa W σ φ hid H (.ok (.bl (false ^^ decide (d = D.non))) st) (CE X.K fa hid Q) := w
      rw [r.isnon, Bool.false_xor] at w'
      exact Wn.val S (.bl _) w') h⟩
  | isNN =>
    obtain ⟨a, k1, p1, p, rfl, rfl⟩ := formIsNN_of hf
    exact ⟨_, _, _, _, rfl, rfl, oneC_snd (t := fun x H Q => Q (.bl (!decide (x = .non))) H) (fun ha => pc_notN ha) (fun {φ hid st d σ H x Q} S r w => by
      have w' : Wn eo X.K fa W σ φ hid H (.ok (.bl (true ^^ decide (d = D.non))) st) (CE X.K fa hid Q) := w
      rw [r.isnon, Bool.true_xor] at w'
      exact Wn.val S (.bl _) w') h⟩
  | isB bb =>
    obtain ⟨a, k1, p1, p, rfl, rfl⟩ := formIsB_of hf
    exact ⟨_, _, _, _, rfl, rfl, oneC_snd (t := fun x H Q => rIsB x (.bl bb) H Q) (fun ha => pc_op op_isBl ha pe_bl) (fun {φ hid st d σ H x Q} S r w => by
      cases r with
      | bl c =>
        have z := Wn.val S (.bl _) (show Wn eo X.K fa W σ φ hid H (.ok (.bl (false ^^ decide (c = bb))) st) (CE X.K fa hid Q) from w)
        rw [Bool.false_xor] at z
        exact ⟨c, _, rfl, rfl, z⟩
      | _ => exact w.elim) h⟩
  | isNB bb =>
    obtain ⟨a, k1, p1, p, rfl, rfl⟩ := formIsNB_of hf
    exact ⟨_, _, _, _, rfl, rfl, oneC_snd (t := fun x H Q => rNotB x (.bl bb) H Q) (fun ha => pc_op op_notBl ha pe_bl) (fun {φ hid st d σ H x Q} S r w => by
      cases r with
      | bl c =>
        have z := Wn.val S (.bl _) (show Wn eo X.K fa W σ φ hid H (.ok (.bl (true ^^ decide (c = bb))) st) (CE X.K fa hid Q) from w)
        rw [Bool.true_xor] at z
        exact ⟨c, _, rfl, rfl, z⟩
      | _ => exact w.elim) h⟩
  | _ => cases hc
/-- a value that is a bool, as a test -/
theorem rdT_tB {σ : L2.St} {H : Hp} {Q : Bool → Hp → Prop} {K : PySem.W.Frag} {E : E} (q : rdT cf eo K fa W E σ H Q) : tB (rdE cf eo K fa W E) σ H Q := by
  obtain ⟨ρ, st, φ, hid, hE, hS, w⟩ := q
  exact rdE_bind hE hS w fun d st1 φ1 H1 v hE1 hS1 r1 x1 w1 => by
    have w2 : Wn eo K fa W σ φ1 hid H1 ((asBool d >>= fun b => (fun st => .ok b st : M Bool)) st1) (fun b _ _ H' => Q b H') := by
      have e1 : (asBool d >>= fun b => (fun st => .ok b st : M Bool)) st1 = asBool d st1 := by
        show M.bind (asBool d) _ st1 = _
        unfold M.bind
        cases asBool d st1 <;> rfl
      rw [e1]; exact w1
    obtain ⟨b, rfl, rfl, w3⟩ := wn_bool r1 w2
    exact ⟨b, rfl, w3.now hS1⟩
/-- a test's value: by its expression's -/
theorem rdT_bind {α : Type} {e : E} {f : Bool → M α} {σ : L2.St} {H : Hp} {ρ : Rho} {st : Store} {φ hid : List Addr} {K : PySem.W.Frag} {C : α → Store → List Addr → Hp → Prop} {kk : Bool → Hp → Prop} (hE : EnvOk K fa ρ σ φ hid H) (hS : StoreOk K fa st φ hid H)
    (w : Wn eo K fa W σ φ hid H ((evE cf e ρ >>= fun x => asBool x >>= f) st) C)
    (h : ∀ b st1 φ1 H1, EnvOk K fa ρ σ φ1 hid H1 → StoreOk K fa st1 φ1 hid H1 → Ext φ H φ1 H1 → Wn eo K fa W σ φ1 hid H1 (f b st1) C → kk b H1) : rdT cf eo K fa W e σ H kk := by
  refine ⟨ρ, st, φ, hid, hE, hS, ?_⟩
  have w0 : Wn eo K fa W σ φ hid H (((evE cf e ρ >>= asBool) >>= f) st) C := by
    have e1 : ((evE cf e ρ >>= asBool) >>= f) st = (evE cf e ρ >>= fun r => asBool r >>= f) st := by
      show M.bind (M.bind (evE cf e ρ) asBool) f st = M.bind (evE cf e ρ) (fun r => M.bind (asBool r) f) st
      unfold M.bind
      cases evE cf e ρ st <;> rfl
    rw [e1]; exact w
  have w1 := w0.bind
  cases q : (evE cf e ρ >>= asBool) st with
  | ok d st1 =>
    rw [q] at w1
    exact fun H1 φ1 x s => h d st1 φ1 H1 (hE.ext x) s x (w1 H1 φ1 x s)
  | exc x st1 => rw [q] at w1; exact w1
  | stuck => rw [q] at w1; exact w1
/-- .. the value itself asked -/
theorem rdE_bool {α : Type} {e : E} {f : Bool → M α} {σ : L2.St} {H : Hp} {ρ : Rho} {st : Store} {φ hid : List Addr} {K : PySem.W.Frag} {C : α → Store → List Addr → Hp → Prop} {kk : V → Hp → Prop} (hE : EnvOk K fa ρ σ φ hid H) (hS : StoreOk K fa st φ hid H)
    (w : Wn eo K fa W σ φ hid H ((evE cf e ρ >>= fun x => asBool x >>= f) st) C)
    (h : ∀ b st1 φ1 H1, EnvOk K fa ρ σ φ1 hid H1 → StoreOk K fa st1 φ1 hid H1 → Ext φ H φ1 H1 → Wn eo K fa W σ φ1 hid H1 (f b st1) C → kk (.bl b) H1) : rdE cf eo K fa W e σ H kk :=
  rdE_bind hE hS w fun d st1 φ1 H1 v hE1 hS1 r1 x1 w1 => by
    obtain ⟨b, rfl, rfl, w3⟩ := wn_bool r1 w1
    exact h b st1 φ1 H1 hE1 hS1 x1 w3
theorem cmpR_pe {E : E} (h : CmpR cf eo fa X W E e) : PE X e (rdE cf eo X.K fa W E) := by
  obtain ⟨l, op, r, p, rfl, hb, h⟩ := h
  exact pe_cmp h hb
theorem cmpR_pt {E : E} (h : CmpR cf eo fa X W E e) : PT X e (rdT cf eo X.K fa W E) := by
  obtain ⟨l, op, r, p, rfl, hb, h⟩ := h
  exact PT.weak (pt_cmp h hb) fun σ H Q q => rdT_tB q
variable {a b c : E} {x y z : Expr} {more : List Expr} {pos : Pos}
theorem and_pe (ha : PE X x (rdE cf eo X.K fa W a)) (hb : PE X (.BoolOp .And (y :: more) pos) (rdE cf eo X.K fa W b)) : PE X (.BoolOp .And (x :: y :: more) pos) (rdE cf eo X.K fa W (.and_ a b)) := by
  refine PE.weak (pe_and ha hb) fun σ H Q q => ?_
  obtain ⟨ρ, st, φ, hid, hE, hS, w⟩ := q
  refine rdE_bool hE hS w fun bb st1 φ1 H1 hE1 hS1 x1 w1 => ⟨bb, rfl, ?_⟩
  cases bb with
  | true => exact ⟨ρ, st1, φ1, hid, hE1, hS1, w1⟩
  | false => exact w1.now hS1 _ (.bl _)
theorem or_pe (ha : PE X x (rdE cf eo X.K fa W a)) (hb : PE X (.BoolOp .Or (y :: more) pos) (rdE cf eo X.K fa W b)) : PE X (.BoolOp .Or (x :: y :: more) pos) (rdE cf eo X.K fa W (.or_ a b)) := by
  refine PE.weak (pe_or ha hb) fun σ H Q q => ?_
  obtain ⟨ρ, st, φ, hid, hE, hS, w⟩ := q
  refine rdE_bool hE hS w fun bb st1 φ1 H1 hE1 hS1 x1 w1 => ⟨bb, rfl, ?_⟩
  cases bb with
  | false => exact ⟨ρ, st1, φ1, hid, hE1, hS1, w1⟩
  | true => exact w1.now hS1 _ (.bl _)
theorem not_pe (ha : PE X x (rdE cf eo X.K fa W a)) : PE X (.UnaryOp .Not x pos) (rdE cf eo X.K fa W (.not_ a)) := by
  refine PE.weak (pe_not ha) fun σ H Q q => ?_
  obtain ⟨ρ, st, φ, hid, hE, hS, w⟩ := q
  exact rdE_bool hE hS w fun bb st1 φ1 H1 hE1 hS1 x1 w1 => ⟨bb, rfl, w1.now hS1 _ (.bl _)⟩
theorem ite_pe (hc : PT X x (rdT cf eo X.K fa W c)) (ha : PE X y (rdE cf eo X.K fa W a)) (hb : PE X z (rdE cf eo X.K fa W b)) : PE X (.IfExp x y z pos) (rdE cf eo X.K fa W (.ite c a b)) := by
  refine PE.weak (pe_ifExp hc ha hb) fun σ H Q q => ?_
  obtain ⟨ρ, st, φ, hid, hE, hS, w⟩ := q
  refine rdT_bind hE hS w fun bb st1 φ1 H1 hE1 hS1 x1 w1 => ?_
  cases bb with
  | true => exact ⟨ρ, st1, φ1, hid, hE1, hS1, w1⟩
  | false => exact ⟨ρ, st1, φ1, hid, hE1, hS1, w1⟩
theorem pw_of {t : TT} {op : BoolOp} {xs : List Expr} (h : PT X (.BoolOp op xs pos) t) : PW X (.BoolOp op xs pos) t := ⟨fun _ => h.run⟩
theorem pt_of {t : TT} (h : PW X e t) : PT X e t := ⟨h.run _⟩
/-- a step as a test, one bracket less -/
theorem bind_assoc {α β γ : Type} (m : M α) (f : α → M β) (g : β → M γ) (st : Store) : ((m >>= f) >>= g) st = (m >>= fun x => f x >>= g) st := by
  show M.bind (M.bind m f) g st = M.bind m (fun x => M.bind (f x) g) st
  unfold M.bind
  cases m st <;> rfl
theorem bind_ext {α β : Type} {m : M α} {f g : α → M β} (h : ∀ x st, f x st = g x st) (st : Store) : (m >>= f) st = (m >>= g) st := by
  show M.bind m f st = M.bind m g st
  unfold M.bind
  cases m st with
  | ok a st1 => exact h a st1
  | _ => rfl
theorem and_pt (ha : PT X x (rdT cf eo X.K fa W a)) (hb : PT X (.BoolOp .And (y :: more) pos) (rdT cf eo X.K fa W b)) : PT X (.BoolOp .And (x :: y :: more) pos) (rdT cf eo X.K fa W (.and_ a b)) := by
  refine PT.weak (pt_of (pw_and ha (pw_of hb))) fun σ H Q q => ?_
  obtain ⟨ρ, st, φ, hid, hE, hS, w⟩ := q
  have w' : Wn eo X.K fa W σ φ hid H ((evE cf a ρ >>= fun d => asBool d >>= fun k => if k then (evE cf b ρ >>= asBool) else fun st => .ok false st) st) (fun b _ _ H' => Q b H') := by
    rw [← show (evE cf (.and_ a b) ρ >>= asBool) st = _ from (bind_assoc _ _ _ st).trans (bind_ext (fun d s => (bind_assoc _ _ _ s).trans (bind_ext (fun k s => by cases k <;> rfl) s)) st)]
    exact w
  refine rdT_bind hE hS w' fun bb st1 φ1 H1 hE1 hS1 x1 w1 => ?_
  cases bb with
  | true => exact ⟨ρ, st1, φ1, hid, hE1, hS1, w1⟩
  | false => exact w1.now hS1
theorem or_pt (ha : PT X x (rdT cf eo X.K fa W a)) (hb : PT X (.BoolOp .Or (y :: more) pos) (rdT cf eo X.K fa W b)) : PT X (.BoolOp .Or (x :: y :: more) pos) (rdT cf eo X.K fa W (.or_ a b)) := by
  refine PT.weak (pt_of (pw_or ha (pw_of hb))) fun σ H Q q => ?_
  obtain ⟨ρ, st, φ, hid, hE, hS, w⟩ := q
  have w' : Wn eo X.K fa W σ φ hid H ((evE cf a ρ >>= fun d => asBool d >>= fun k => if k then (fun st => .ok true st) else (evE cf b ρ >>= asBool)) st) (fun b _ _ H' => Q b H') := by
    rw [← show (evE cf (.or_ a b) ρ >>= asBool) st = _ from (bind_assoc _ _ _ st).trans (bind_ext (fun d s => (bind_assoc _ _ _ s).trans (bind_ext (fun k s => by cases k <;> rfl) s)) st)]
    exact w
  refine rdT_bind hE hS w' fun bb st1 φ1 H1 hE1 hS1 x1 w1 => ?_
  cases bb with
  | false => exact ⟨ρ, st1, φ1, hid, hE1, hS1, w1⟩
  | true => exact w1.now hS1
theorem not_pt (ha : PT X x (rdT cf eo X.K fa W a)) : PT X (.UnaryOp .Not x pos) (rdT cf eo X.K fa W (.not_ a)) := by
  refine PT.weak (pt_not ha) fun σ H Q q => ?_
  obtain ⟨ρ, st, φ, hid, hE, hS, w⟩ := q
  have w' : Wn eo X.K fa W σ φ hid H ((evE cf a ρ >>= fun d => asBool d >>= fun k => (fun st => .ok (!k) st : M Bool)) st) (fun b _ _ H' => Q b H') := by
    have e1 : (evE cf (.not_ a) ρ >>= asBool) st = (evE cf a ρ >>= fun d => asBool d >>= fun k => (fun st => .ok (!k) st : M Bool)) st := (bind_assoc _ _ _ st).trans (bind_ext (fun d s => (bind_assoc _ _ _ s).trans (bind_ext (fun k s => by cases k <;> rfl) s)) st)
    rw [← e1]
    exact w
  exact rdT_bind hE hS w' fun bb st1 φ1 H1 hE1 hS1 x1 w1 => w1.now hS1
theorem pt_ifExp {tc ta tb : TT} (hc : PT X x tc) (ha : PT X y ta) (hb : PT X z tb) : PT X (.IfExp x y z pos) (fun σ H Q => tc σ H fun c H1 => if c = true then ta σ H1 Q else tb σ H1 Q) := by
  refine ⟨fun pins s σ H Q I h => ?_⟩
  refine PyProof.Rows.isTrue_IfExp (thn (hc.run pins s σ H _ I h) fun d s1 ⟨H1, I1, q1⟩ => ?_)
  cases d with
  | true => exact ha.run pins s1 σ H1 Q I1 q1
  | false => exact hb.run pins s1 σ H1 Q I1 q1
theorem ite_pt (hc : PT X x (rdT cf eo X.K fa W c)) (ha : PT X y (rdT cf eo X.K fa W a)) (hb : PT X z (rdT cf eo X.K fa W b)) : PT X (.IfExp x y z pos) (rdT cf eo X.K fa W (.ite c a b)) := by
  refine PT.weak (pt_ifExp hc ha hb) fun σ H Q q => ?_
  obtain ⟨ρ, st, φ, hid, hE, hS, w⟩ := q
  have w' : Wn eo X.K fa W σ φ hid H ((evE cf c ρ >>= fun d => asBool d >>= fun k => if k then (evE cf a ρ >>= asBool) else (evE cf b ρ >>= asBool)) st) (fun b _ _ H' => Q b H') := by
    rw [← show (evE cf (.ite c a b) ρ >>= asBool) st = _ from (bind_assoc _ _ _ st).trans (bind_ext (fun d s => (bind_assoc _ _ _ s).trans (bind_ext (fun k s => by cases k <;> rfl) s)) st)]
    exact w
  refine rdT_bind hE hS w' fun bb st1 φ1 H1 hE1 hS1 x1 w1 => ?_
  cases bb with
  | true => exact ⟨ρ, st1, φ1, hid, hE1, hS1, w1⟩
  | false => exact ⟨ρ, st1, φ1, hid, hE1, hS1, w1⟩
end
end PC
set_option Elab.async false
set_option linter.all false
set_option maxRecDepth 100000
set_option maxHeartbeats 4000000
namespace PC
open PySem PySem.Spec L2
theorem PO.weak {X : Cx} {e : Option Expr} {t t' : TO} (h : PO X e t) (i : ∀ σ H Q, t' σ H Q → t σ H Q) : PO X e t' := ⟨fun pins s σ H Q I q => h.run pins s σ H Q I (i _ _ _ q)⟩
section
variable (cf : Nat → List D → M D) (eo : Nat → Option (Value × Option Str)) (K : PySem.W.Frag) (fa : Nat → Addr) (W : WX)
/-- a slice's bound -/
def evP (l : Bool) (e : E) (ρ : Rho) : M (Option Int) := if l then (do
      let y ← evE cf e ρ
      intPart y) else fun st => .ok none st
def rdO (l : Bool) (e : E) : TO := fun σ H Q => ∃ ρ st φ hid, EnvOk K fa ρ σ φ hid H ∧ StoreOk K fa st φ hid H ∧ Wn eo K fa W σ φ hid H (evP cf l e ρ st) (fun o _ _ H' => Q o H')
end
section
variable {cf : Nat → List D → M D} {T : Tab} {sc : Scope} {k : Nat} {N : List Str} {X : Cx} {fa : Nat → Addr} {eo : Nat → Option (Value × Option Str)} {W : WX} {es : E} {e : Expr} {ops : List Expr}
theorem rdO_bind {α : Type} {l : Bool} {e : E} {f : Option Int → M α} {σ : L2.St} {H : Hp} {ρ : Rho} {st : Store} {φ hid : List Addr} {K : PySem.W.Frag} {C : α → Store → List Addr → Hp → Prop} {kk : Option Int → Hp → Prop} (hE : EnvOk K fa ρ σ φ hid H) (hS : StoreOk K fa st φ hid H)
    (w : Wn eo K fa W σ φ hid H ((evP cf l e ρ >>= f) st) C)
    (h : ∀ b st1 φ1 H1, EnvOk K fa ρ σ φ1 hid H1 → StoreOk K fa st1 φ1 hid H1 → Ext φ H φ1 H1 → Wn eo K fa W σ φ1 hid H1 (f b st1) C → kk b H1) : rdO cf eo K fa W l e σ H kk := by
  refine ⟨ρ, st, φ, hid, hE, hS, ?_⟩
  have w1 := w.bind
  cases q : evP cf l e ρ st with
  | ok d st1 =>
    rw [q] at w1
    exact fun H1 φ1 x s => h d st1 φ1 H1 (hE.ext x) s x (w1 H1 φ1 x s)
  | exc x st1 => rw [q] at w1; exact w1
  | stuck => rw [q] at w1; exact w1
theorem part_some {x : Expr} {a : E} (h : PE X x (rdE cf eo X.K fa W a)) : PO X (some x) (rdO cf eo X.K fa W true a) := by
  refine PO.weak (po_some h) fun σ H Q q => ?_
  obtain ⟨ρ, st, φ, hid, hE, hS, w⟩ := q
  exact rdE_bind hE hS (show Wn eo X.K fa W σ φ hid H ((evE cf a ρ >>= intPart) st) _ from w) fun d st1 φ1 H1 v hE1 hS1 r1 x1 w1 => by
    cases r1 with
    | int i => exact ⟨i, rfl, w1.now hS1⟩
    | _ => exact w1.elim
theorem part_none {a : E} : PO X none (rdO cf eo X.K fa W false a) := by
  refine PO.weak po_none fun σ H Q q => ?_
  obtain ⟨ρ, st, φ, hid, hE, hS, w⟩ := q
  exact (show Wn eo X.K fa W σ φ hid H (.ok none st) _ from w).now hS
theorem sl_snd {c l h : Bool} {a lo hi : E} {x : Expr} {xl xh : Option Expr} {p p2 : Pos} (ha : PE X x (rdE cf eo X.K fa W a)) (hl : PO X xl (rdO cf eo X.K fa W l lo)) (hh : PO X xh (rdO cf eo X.K fa W h hi)) :
    PE X (.Subscript x (.Slice xl xh none p2) p) (rdE cf eo X.K fa W (.sl c l h a lo hi)) := by
  refine PE.weak (pe_slice (sliceD (eo := eo) (fa := fa) (c := c)) ha hl hh) fun σ H Q q => ?_
  obtain ⟨ρ, st, φ, hid, hE, hS, w⟩ := q
  have w' : Wn eo X.K fa W σ φ hid H ((evE cf a ρ >>= fun d => evP cf l lo ρ >>= fun y => evP cf h hi ρ >>= fun z => sliceV c d y z) st) (CE X.K fa hid Q) := w
  exact rdE_bind hE hS w' fun d st1 φ1 H1 v hE1 hS1 r1 x1 w1 => rdO_bind hE1 hS1 w1 fun y st2 φ2 H2 hE2 hS2 x2 w2 => rdO_bind hE2 hS2 w2 fun z st3 φ3 H3 hE3 hS3 x3 w3 =>
    ⟨φ3, hid, st3, d, W, σ, hS3, (r1.ext x2).ext x3, w3⟩
theorem tup_snd {xs : List Expr} {j : Nat} {p : Pos} (h : AllPE cf eo fa X W es xs) : PE X (.Tuple xs j p) (rdE cf eo X.K fa W (.tup es)) := by
  refine PE.weak (pe_tup h.pa) fun σ H Q q => ?_
  obtain ⟨ρ, st, φ, hid, hE, hS, w⟩ := q
  refine rdA_bind hE hS w fun ds st1 φ1 H1 vs hE1 hS1 r1 x1 w1 => ?_
  have w2 : Wn eo X.K fa W σ φ1 hid H1 (if fits ds.length then .ok (.tup ds) st1 else .stuck) (CE X.K fa hid Q) := w1
  split at w2
  · rename_i hf
    exact ⟨by rw [r1.length, sizeLine_eq]; exact of_decide_eq_true hf, Wn.tup hS1 r1 w2⟩
  · exact w2.elim
theorem lst_snd {c : Bool} {xs : List Expr} {p : Pos} (h : AllPE cf eo fa X W es xs) : PE X (.List xs p) (rdE cf eo X.K fa W (.lst c es)) := by
  refine PE.weak (pe_lst h.pa) fun σ H Q q => ?_
  obtain ⟨ρ, st, φ, hid, hE, hS, w⟩ := q
  refine rdA_bind hE hS w fun ds st1 φ1 H1 vs hE1 hS1 r1 x1 w1 => ?_
  have w2 : Wn eo X.K fa W σ φ1 hid H1 (if fits ds.length then mkL c ds st1 else .stuck) (CE X.K fa hid Q) := w1
  split at w2
  · rename_i hf
    exact ⟨by rw [r1.length, sizeLine_eq]; exact of_decide_eq_true hf, Wn.mk hS1 r1 w2⟩
  · exact w2.elim
/-- the operator of a comparison -/
def opOf : Bi → Option CmpOp
  | .eq => some .Eq | .ne => some .NotEq | .lt => some .Lt | .le => some .LtE | .gt => some .Gt | .ge => some .GtE | .inn => some .In | .nin => some .NotIn
  | _ => none
theorem opR_of (G : Good T fa eo k N sc X) {b : Bi} {op : CmpOp} (h : opOf b = some op) : OpR X (compareOp op) (rV eo X.K fa fun d e => biV b [d, e]) := by
  cases b with
  | eq => cases h; exact eqD (by have := G.hu; omega)
  | ne => cases h; exact neD (by have := G.hu; omega)
  | lt => cases h; exact ltD
  | le => cases h; exact leD
  | gt => cases h; exact gtD
  | ge => cases h; exact geD
  | inn => cases h; exact inD G.hu
  | nin => cases h; exact ninD G.hu
  | _ => cases h
theorem last_of {op op' : CmpOp} {b c : Expr} (hc : notSet c = true) : lastMarks [op, op'] [b, c] = false := by
  cases c <;> first | (with_unfolding_all rfl) | cases hc
theorem _root_.PC.Wn.step {α β : Type} {m : M α} {f : α → M β} {K : PySem.W.Frag} {σ : L2.St} {φ hid : List Addr} {H : Hp} {st : Store} {C : β → Store → List Addr → Hp → Prop} {C' : α → Store → List Addr → Hp → Prop} (w : Wn eo K fa W σ φ hid H ((m >>= f) st) C)
    (h : ∀ a st1 φ1 H1, Ext φ H φ1 H1 → StoreOk K fa st1 φ1 hid H1 → Wn eo K fa W σ φ1 hid H1 (f a st1) C → C' a st1 φ1 H1) : Wn eo K fa W σ φ hid H (m st) C' := by
  have w1 := w.bind
  cases q : m st with
  | ok d st1 =>
    rw [q] at w1
    exact fun H1 φ1 x s => h d st1 φ1 H1 x s (w1 H1 φ1 x s)
  | exc x st1 => rw [q] at w1; exact w1
  | stuck => rw [q] at w1; exact w1
theorem chain_rd {K : PySem.W.Frag} {o p : Bi} {a b c : E} {σ : L2.St} {H : Hp} {Q : VK} (q : rdE cf eo K fa W (.chain o p a b c) σ H Q) : tChain (rV eo K fa fun d e => biV o [d, e]) (rV eo K fa fun d e => biV p [d, e]) (rdE cf eo K fa W a) (rdE cf eo K fa W b) (rdE cf eo K fa W c) σ H Q := by
  obtain ⟨ρ, st, φ, hid, hE, hS, w⟩ := q
  have w' : Wn eo K fa W σ φ hid H ((evE cf a ρ >>= fun x => evE cf b ρ >>= fun y => biV o [x, y] >>= fun r => asBool r >>= fun kk => if kk then evE cf c ρ >>= fun z => biV p [y, z] else fun st => .ok (.bl false) st) st) (CE K fa hid Q) := w
  refine rdE_bind hE hS w' fun d st1 φ1 H1 v hE1 hS1 r1 x1 w1 => rdE_bind hE1 hS1 w1 fun e st2 φ2 H2 u hE2 hS2 r2 x2 w2 => ?_
  refine ⟨φ2, hid, st2, d, e, W, σ, hS2, r1.ext x2, r2, w2.step fun r st3 φ3 H3 x3 hS3 w3 z r3 => ?_⟩
  obtain ⟨kk, rfl, rfl, w4⟩ := wn_bool r3 w3
  refine ⟨kk, rfl, ?_⟩
  cases kk with
  | true => exact rdE_bind (hE2.ext x3) hS3 w4 fun g st5 φ5 H5 t hE5 hS5 r5 x5 w5 => ⟨φ5, hid, st5, e, g, W, σ, hS5, (r2.ext x3).ext x5, r5, w5⟩
  | false => exact w4.now hS3 _ (.bl _)
theorem chain_pe (G : Good T fa eo k N sc X) {o p : Bi} {op op' : CmpOp} {a b c : E} {x y z : Expr} {pos : Pos} (ho : opOf o = some op) (hp : opOf p = some op') (hz : notSet z = true) (ha : PE X x (rdE cf eo X.K fa W a)) (hb : PE X y (rdE cf eo X.K fa W b)) (hc : PE X z (rdE cf eo X.K fa W c)) :
    PE X (.Compare x [op, op'] [y, z] pos) (rdE cf eo X.K fa W (.chain o p a b c)) :=
  PE.weak (pe_chain (opR_of G ho) (opR_of G hp) ha hb hc (last_of hz)) fun _ _ _ q => chain_rd q
theorem tB_tTest {t : TE} {σ : L2.St} {H : Hp} {Q : Bool → Hp → Prop} (h : tB t σ H Q) : tTest t σ H Q := h
theorem chain_pt (G : Good T fa eo k N sc X) {o p : Bi} {op op' : CmpOp} {a b c : E} {x y z : Expr} {pos : Pos} (ho : opOf o = some op) (hp : opOf p = some op') (hz : notSet z = true) (ha : PE X x (rdE cf eo X.K fa W a)) (hb : PE X y (rdE cf eo X.K fa W b)) (hc : PE X z (rdE cf eo X.K fa W c)) :
    PT X (.Compare x [op, op'] [y, z] pos) (rdT cf eo X.K fa W (.chain o p a b c)) :=
  PT.weak (pt_chain (opR_of G ho) (opR_of G hp) ha hb hc (last_of hz)) fun σ H Q q => chain_rd (Q := fun v H' => ∃ k, v = .bl k ∧ Q k H') (rdT_tB q)
theorem callF_len {tbl : Nat → Option Def} {kk f : Nat} {d : Def} {ds : List D} {st : Store} {K : PySem.W.Frag} {σ : L2.St} {φ hid : List Addr} {H : Hp} {C : D → Store → List Addr → Hp → Prop} (hd : tbl f = some d) (w : Wn eo K fa W σ φ hid H (callF tbl kk f ds st) C) : ds.length = d.np := by
  cases kk with
  | zero => exact w.elim
  | succ kk =>
    by_cases hl : ds.length = d.np
    · exact hl
    · have e1 : callF tbl (kk + 1) f ds st = .stuck := by
        show (match tbl f with
          | none => Res.stuck
          | some d => if ds.length = d.np then _ else .stuck) = .stuck
        rw [hd]
        exact if_neg hl
      rw [e1] at w
      exact w.elim
theorem sp_of (G : Good T fa eo k N sc X) {f : Nat} {d : Def} (hd : T.tbl f = some d) {ds : List D} {vs : List V} {st : Store} {σ : L2.St} {φ hid : List Addr} {H : Hp} {Q : VK} (hS : StoreOk X.K fa st φ hid H) (r : Reps X.K fa φ hid H ds vs) (w : Wn eo X.K fa W σ φ hid H (callF T.tbl k f ds st) (CE X.K fa hid Q)) : spF T fa eo X.K k f vs H Q (WE W σ) := by
  refine ⟨ds, st, φ, hid, ?_, hS, r, ?_⟩
  · rw [r.length, callF_len hd w, G.glb.np _ _ hd]
  · cases q : callF T.tbl k f ds st with
    | ok a st' => rw [q] at w; exact w
    | exc e st' => rw [q] at w; exact w
    | stuck => rw [q] at w; exact w.elim
theorem call_pe (G : Good T fa eo k N sc X) (tk : Takes X W) {f : Nat} {d : Def} {x : Str} {a : Expr} {as : List Expr} {p p2 : Pos} (hf : T.fn x = some f) (hd : T.tbl f = some d) (hx : isGl sc x = true) (hdb : (x == ("__debug__" : Str)) = false)
    (h : AllPE (callF T.tbl k) eo fa X W es (a :: as)) : PE X (.Call (.Name x p) (a :: as) [] p2) (rdE (callF T.tbl k) eo X.K fa W (.call f es)) := by
  have pl := h.plain
  rw [List.all_cons, Bool.and_eq_true] at pl
  obtain ⟨fd, F, B⟩ := G.fns f d hd
  refine PE.weak (pe_callS F G.room (G.gl (of_decide_eq_true hx)) (G.glb.fn _ _ hf) (G.glb.keep _ _ hd) B (fun σ => passAt tk σ) h.pa hdb (star_cons pl.1) (star_plain pl.2)) fun σ H Q q => ?_
  obtain ⟨ρ, st, φ, hid, hE, hS, w⟩ := q
  refine rdA_bind hE hS w fun ds st1 φ1 H1 vs hE1 hS1 r1 x1 w1 => sp_of G hd hS1 r1 w1
/-- a call of a local name that holds a def -/
def tCallD (SP : Nat → Sp) (fa : Nat → Addr) (ok : Nat → Prop) (E : L2.St → XK) (i : Nat) (t : TA) : TE := fun σ H Q => ∃ f, σ[i]? = some (some (.ref (fa f))) ∧ ok f ∧ t σ H fun vs H1 => SP f vs H1 Q (E σ)
theorem pe_callD {E : L2.St → XK} {i : Nat} {x : Str} {p pos : Pos} {a : Expr} {as : List Expr} {t : TA} (G : Good T fa eo k N sc X) (hN : X.N[i]? = some x) (hv : Vis X.env.scope x) (hx : ∀ σ, PassesAt (L2.CX X.prog X.w) X σ (E σ)) (ha : PA X (a :: as) t)
    (hdb : (x == ("__debug__" : Str)) = false) (hcd : (x == ("__classdict__" : Str)) = false)
    (he : starEach (a :: as) X.env = (false, eval a X.env) :: starEach as X.env) (hpl : (backTo pos (starEach as X.env)).any (·.1) = false) : PE X (.Call (.Name x p) (a :: as) [] pos) (tCallD (spF T fa eo X.K k) fa (fun f => ∃ d, T.tbl f = some d) E i t) := by
  refine ⟨fun pins s σ H Q I h => ?_⟩
  obtain ⟨f, hs, ⟨d, hd⟩, ht⟩ := h
  obtain ⟨fd, F, B⟩ := G.fns f d hd
  refine wpAny_Call_Name_kw (thn ((pe_var (pos := p) hN hv hdb hcd).run pins s σ H (fun v H1 => v = .ref (fa f) ∧ H1 = H) I ⟨.ref (fa f), hs, rfl, rfl⟩) fun u s1 ⟨v, H1, I1, r1, q1⟩ => ?_)
  obtain ⟨rfl, rfl⟩ := q1
  cases r1
  refine PySem.W.callWith_K (h₀ := X.base) I.ok.mod.kin (G.glb.keep _ _ hd) (thn (ha.run pos pins s1 σ _ _ I1 ht) fun us s2 ⟨vs, H2, I2, r, q⟩ => ⟨I2.kIn, ?_⟩) he hpl
  exact run_fnS F G.room B (hx σ) I2 r q
theorem callv_pe (G : Good T fa eo k N sc X) (tk : Takes X W) {i : Nat} {x : Str} {a : Expr} {as : List Expr} {p p2 : Pos} (hN : N[i]? = some x) (hv : isVis sc x = true) (hdb : (x == ("__debug__" : Str)) = false) (hcd : (x == ("__classdict__" : Str)) = false)
    (h : AllPE (callF T.tbl k) eo fa X W es (a :: as)) : PE X (.Call (.Name x p) (a :: as) [] p2) (rdE (callF T.tbl k) eo X.K fa W (.callv (.var i) es)) := by
  have pl := h.plain
  rw [List.all_cons, Bool.and_eq_true] at pl
  refine PE.weak (pe_callD G (by rw [G.hN]; exact hN) (G.vis hv) (fun σ => passAt tk σ) h.pa hdb hcd (star_cons pl.1) (star_plain pl.2)) fun σ H Q q => ?_
  obtain ⟨ρ, st, φ, hid, hE, hS, w⟩ := q
  have w0 : Wn eo X.K fa W σ φ hid H ((getV ρ i >>= fun g => match g with
    | .fn i => noExc (evE (callF T.tbl k) es ρ) >>= fun r => tupOf r >>= fun xs => callF T.tbl k i xs
    | _ => stuck) st) (CE X.K fa hid Q) := w
  cases hg : getV ρ i st with
  | stuck =>
    rw [M.bind_eq, hg] at w0; exact w0.elim
  | exc e st' =>
    unfold getV at hg
    split at hg <;> cases hg
  | ok g st' =>
    rw [M.bind_eq, hg] at w0
    unfold getV at hg
    split at hg
    · rename_i d' hd'
      cases hg
      obtain ⟨v, hs, r⟩ := hE.2 i _ hd'
      cases r with
      | fn f =>
        have w1 : Wn eo X.K fa W σ φ hid H ((noExc (evE (callF T.tbl k) es ρ) >>= fun r => tupOf r >>= fun xs => callF T.tbl k f xs) st) (CE X.K fa hid Q) := w0
        have key : Wn eo X.K fa W σ φ hid H ((evE (callF T.tbl k) es ρ >>= fun r => tupOf r >>= fun xs => callF T.tbl k f xs) st) (CE X.K fa hid Q) ∧ ∃ d, T.tbl f = some d := by
          rw [M.bind_eq] at w1
          rw [M.bind_eq]
          cases q : evE (callF T.tbl k) es ρ st with
          | ok r st1 =>
            have q2 : noExc (evE (callF T.tbl k) es ρ) st = .ok r st1 := by unfold noExc; rw [q]
            rw [q2] at w1
            refine ⟨w1, ?_⟩
            cases hd : T.tbl f with
            | some d => exact ⟨d, rfl⟩
            | none =>
              exfalso
              have hno : ∀ xs st, callF T.tbl k f xs st = .stuck := fun xs st => by
                cases k with
                | zero => rfl
                | succ k =>
                  show (match T.tbl f with
                    | none => Res.stuck
                    | some d => if xs.length = d.np then _ else .stuck) = .stuck
                  rw [hd]
              have w2 : Wn eo X.K fa W σ φ hid H ((tupOf r >>= fun xs => callF T.tbl k f xs) st1) (CE X.K fa hid Q) := w1
              cases r with
              | tup xs =>
                have w3 : Wn eo X.K fa W σ φ hid H (callF T.tbl k f xs st1) (CE X.K fa hid Q) := w2
                rw [hno] at w3; exact w3
              | _ => exact w2
          | exc e st1 =>
            have q2 : noExc (evE (callF T.tbl k) es ρ) st = .stuck := by unfold noExc; rw [q]
            rw [q2] at w1; exact w1.elim
          | stuck =>
            have q2 : noExc (evE (callF T.tbl k) es ρ) st = .stuck := by unfold noExc; rw [q]
            rw [q2] at w1; exact w1.elim
        exact ⟨f, hs, key.2, rdA_bind hE hS key.1 fun ds st1 φ1 H1 vs hE1 hS1 r1 x1 w1 => by
          obtain ⟨d, hd⟩ := key.2
          exact sp_of G hd hS1 r1 w1⟩
      | _ => exact (show False from w0).elim
    · cases hg
end
end PC
set_option Elab.async false
set_option linter.all false
set_option maxRecDepth 100000
set_option maxHeartbeats 4000000
namespace PC
open PySem PySem.Spec L2
section
variable {K : PySem.W.Frag} {fa : Nat → Addr} {φ hid hid' : List Addr} {H : Hp}
theorem TupAt.hids {a : Addr} {vs : List V} (h : ∀ b ∈ hid', b ∈ hid ∨ H b = none) (t : TupAt K φ hid H a vs) : TupAt K φ hid' H a vs := by
  rcases t with ⟨r, n, m⟩ | t
  · exact .inl ⟨r, n, fun z => by
      rcases h a z with q | q
      · exact m q
      · rw [r] at q; cases q⟩
  · exact .inr t
theorem LokAt.hids {a : Addr} {vs : List V} (h : ∀ b ∈ hid', b ∈ hid ∨ H b = none) (t : LokAt K φ hid H a vs) : LokAt K φ hid' H a vs := by
  rcases t with ⟨o, r, n, m⟩ | t
  · exact .inl ⟨o, r, n, fun z => by
      rcases h a z with q | q
      · exact m q
      · rw [r] at q; cases q⟩
  · exact .inr t
mutual
theorem Rep.hids (h : ∀ b ∈ hid', b ∈ hid ∨ H b = none) : ∀ {d : D} {v : V}, Rep K fa φ hid H d v → Rep K fa φ hid' H d v
  | _, _, .non => .non
  | _, _, .bl b => .bl b
  | _, _, .int i => .int i
  | _, _, .str s => .str s
  | _, _, .tup t r => .tup (t.hids h) (Reps.hids h r)
  | _, _, .lst (a := a) t n m r => .lst t n (fun z => by
      rcases h a z with q | q
      · exact m q
      · rw [t] at q; cases q) (Reps.hids h r)
  | _, _, .lok t r => .lok (t.hids h) (Reps.hids h r)
  | _, _, .ref q => .ref q
  | _, _, .fn i => .fn i
theorem Reps.hids (h : ∀ b ∈ hid', b ∈ hid ∨ H b = none) : ∀ {xs : List D} {vs : List V}, Reps K fa φ hid H xs vs → Reps K fa φ hid' H xs vs
  | _, _, .nil => .nil
  | _, _, .cons p t => .cons (Rep.hids h p) (Reps.hids h t)
end
theorem Reps.none_at : ∀ {xs : List D} {vs : List V} {i : Nat}, Reps K fa φ hid H xs vs → xs[i]? = none → vs.length ≤ i := fun r h => by
  rw [r.length]
  exact List.getElem?_eq_none_iff.mp h
end

/-- a list or a tuple, walked -/
def iSeq (K : PySem.W.Frag) (tl : TE) : TI := fun σ H R => tl σ H fun x H1 => ∃ a, x = .ref a ∧ (((∃ xs, SqL K H1 a xs) ∧ R (Itl K a) H1) ∨ ((∃ xs, SqT K H1 a xs) ∧ R (Itt K a) H1))
theorem pi_seq {X : Cx} {tg l : Expr} {tl : TE} (hl : PE X l tl) : PI X tg l (iSeq X.K tl) := by
  refine ⟨fun pins s σ H R I h => ?_⟩
  refine thn (hl.run pins s σ H _ I h) fun v s1 ⟨x, H1, I1, r1, q1⟩ => ?_
  obtain ⟨a, e, q⟩ := q1
  subst e
  cases r1
  rcases q with ⟨⟨xs, hq⟩, q⟩ | ⟨⟨xs, hq⟩, q⟩
  · obtain ⟨its, rv, p, hz⟩ := I1.list hq
    refine wpAny_pyIter_list p.isList ?_
    refine ⟨s1.heap.objs.size, [s1.heap.objs.size], _, _, H1, rfl, I1.kept (t' := s1.toks) fun b o e => Heap.get?_push_of_some _ e, turn_list a _, ⟨_, Heap.get?_push_size _ rfl, rfl, rfl⟩, fun b hb => ?_, q⟩
    have e : b = s1.heap.objs.size := by simpa using hb
    subst e
    exact I1.fpOk (Nat.le_refl _) (I1.hok.fresh (Nat.le_refl _))
  · obtain ⟨its, rv, p, hz⟩ := I1.tuple hq
    refine wpAny_pyIter_tuple (show s1.heap.IsTuple a its.toArray from p) ?_
    refine ⟨s1.heap.objs.size, [s1.heap.objs.size], _, _, H1, rfl, I1.kept (t' := s1.toks) fun b o e => Heap.get?_push_of_some _ e, turn_tuple a _, ⟨_, Heap.get?_push_size _ rfl, rfl, rfl⟩, fun b hb => ?_, q⟩
    have e : b = s1.heap.objs.size := by simpa using hb
    subst e
    exact I1.fpOk (Nat.le_refl _) (I1.hok.fresh (Nat.le_refl _))
section
variable {cf : Nat → List D → M D} {T : Tab} {sc : Scope} {k : Nat} {N : List Str} {X : Cx} {fa : Nat → Addr} {eo : Nat → Option (Value × Option Str)} {W : WX} {K : PySem.W.Frag} {φ hid : List Addr} {H : Hp} {st : Store}
theorem rd_of {α : Type} {a : Option α} {x y : α} (h : a = some x) (h' : a = some y) : x = y := Option.some.inj (h.symm.trans h')
theorem ok_lst {a : Addr} {src : Src} (h : ∀ hid', (∀ b ∈ hid', b ∈ hid ∨ H b = none) → ∀ φ' H' st', Ext φ H φ' H' → StoreOk K fa st' φ' hid' H' → ∀ xs, (match src with | .items ys => some ys | .cell n => lstOf st' (.ref n)) = some xs → ∃ vs, H' a = some (.lst vs) ∧ Reps K fa φ' hid' H' xs vs) : ItOk K fa (Itl K a) src φ hid H := by
  intro hid' hh i φ' H' st' ex S xs hx
  obtain ⟨vs, t, r⟩ := h hid' hh φ' H' st' ex S xs hx
  have q : SqL K H' a vs := .inl (.inl t)
  refine ⟨fun d hd => ?_, fun hd => ⟨vs, q, r.none_at hd⟩⟩
  obtain ⟨v, hv, rv⟩ := r.get hd
  refine ⟨⟨vs, v, q, hv⟩, fun x H2 y => ?_⟩
  obtain ⟨rfl, y⟩ := y
  cases rd_of (y vs q) hv
  exact ⟨.refl, S, rv⟩
theorem ok_tup {a : Addr} {xs : List D} (h : ∀ hid', (∀ b ∈ hid', b ∈ hid ∨ H b = none) → ∀ φ' H', Ext φ H φ' H' → ∃ vs, TupAt K φ' hid' H' a vs ∧ Reps K fa φ' hid' H' xs vs) : ItOk K fa (Itt K a) (.items xs) φ hid H := by
  intro hid' hh i φ' H' st' ex S xs' hx
  cases hx
  obtain ⟨vs, t, r⟩ := h hid' hh φ' H' ex
  have q : SqT K H' a vs := t.sq
  refine ⟨fun d hd => ?_, fun hd => ⟨vs, q, r.none_at hd⟩⟩
  obtain ⟨v, hv, rv⟩ := r.get hd
  refine ⟨⟨vs, v, q, hv⟩, fun x H2 y => ?_⟩
  obtain ⟨rfl, y⟩ := y
  cases rd_of (y vs q) hv
  exact ⟨.refl, S, rv⟩
theorem sq_pi {a : E} {e tg : Expr} (h : PE X e (rdE cf eo X.K fa W a)) : PI X tg e (rdI cf eo X.K fa W (.sq a)) := by
  refine PI.weak (pi_seq h) fun σ H R q => ?_
  obtain ⟨ρ, st, φ, hid, hE, hS, w⟩ := q
  refine rdE_bind hE hS (show Wn eo X.K fa W σ φ hid H ((evE cf a ρ >>= srcOf) st) _ from w) fun d st1 φ1 H1 v hE1 hS1 r1 x1 w1 => ?_
  cases r1 with
  | @tup xs vs ad t r =>
    refine ⟨ad, rfl, .inr ⟨⟨vs, t.sq⟩, w1.now hS1 _ (ok_tup fun hid' hh φ' H' ex => ⟨vs, (t.hids hh).ext ex, (r.hids hh).ext ex⟩)⟩⟩
  | @lst xs vs ad t n m r =>
    refine ⟨ad, rfl, .inl ⟨⟨vs, .inl (.inl t)⟩, w1.now hS1 _ (ok_lst fun hid' hh φ' H' st' ex S xs' hx => ?_)⟩⟩
    cases hx
    exact ⟨vs, (keepExt t ex n).1, (r.hids hh).ext ex⟩
  | @ref n ad hn =>
    have hlt : n < st1.length := by rw [← hS1.len]; exact (List.getElem?_eq_some_iff.mp hn).1
    cases hc : st1[n] with
    | lst ys =>
      obtain ⟨b, vs, h1, h2, h3⟩ := hS1.cell n ys (by rw [List.getElem?_eq_getElem hlt, hc])
      rw [hn] at h1; cases h1
      refine ⟨ad, rfl, .inl ⟨⟨vs, .inl (.inl h2)⟩, w1.now hS1 _ (ok_lst fun hid' hh φ' H' st' ex S xs' hx => ?_)⟩⟩
      have hn' : φ'[n]? = some ad := by
        obtain ⟨l, hl⟩ := ex.pre
        rw [← hl, List.getElem?_append_left]
        · exact hn
        · exact (List.getElem?_eq_some_iff.mp hn).1
      have hx' : (match st'[n]? with
        | some (.lst xs) => some xs
        | none => none) = some xs' := hx
      cases q : st'[n]? with
      | none => rw [q] at hx'; cases hx'
      | some c =>
        cases c with
        | lst zs =>
          rw [q] at hx'; cases hx'
          obtain ⟨b, us, g1, g2, g3⟩ := S.cell n _ q
          rw [hn'] at g1; cases g1
          exact ⟨us, g2, g3⟩
  | _ => exact w1.elim
theorem rgI_get {lo c : Int} {n i : Nat} {d : D} : (rgI lo n c)[i]? = some d ↔ i < n ∧ d = .int (lo + i * c) := by
  unfold rgI
  rw [List.getElem?_map]
  by_cases h : i < n
  · rw [List.getElem?_range h]
    exact ⟨fun q => ⟨h, (Option.some.inj q).symm⟩, fun q => by rw [q.2]; rfl⟩
  · rw [List.getElem?_eq_none (by simpa using h)]
    exact ⟨fun q => (by cases q), fun q => absurd q.1 h⟩
theorem rgI_none {lo c : Int} {n i : Nat} (h : (rgI lo n c)[i]? = none) : n ≤ i := by
  have := List.getElem?_eq_none_iff.mp h
  unfold rgI at this
  simpa using this
theorem ok_rng {lo : Int} {n : Nat} : ItOk K fa (Itr lo n) (.items (rgI lo n 1)) φ hid H := by
  intro hid' hh i φ' H' st' ex S xs' hx
  cases hx
  refine ⟨fun d hd => ?_, fun hd => rgI_none hd⟩
  obtain ⟨h, rfl⟩ := rgI_get.mp hd
  refine ⟨h, fun x H2 y => ?_⟩
  obtain ⟨rfl, rfl⟩ := y
  rw [Int.mul_one]
  exact ⟨.refl, S, .int _⟩
theorem ok_rngC {lo c : Int} {n : Nat} : ItOk K fa (Itc lo c n) (.items (rgI lo n c)) φ hid H := by
  intro hid' hh i φ' H' st' ex S xs' hx
  cases hx
  refine ⟨fun d hd => ?_, fun hd => rgI_none hd⟩
  obtain ⟨h, rfl⟩ := rgI_get.mp hd
  refine ⟨h, fun x H2 y => ?_⟩
  obtain ⟨rfl, rfl⟩ := y
  exact ⟨.refl, S, .int _⟩
theorem small_at {i : Int} (h : small i = true) : -(2 ^ 62) ≤ i ∧ i < 2 ^ 62 := by
  unfold small at h
  rw [Bool.and_eq_true] at h
  exact ⟨of_decide_eq_true h.1, of_decide_eq_true h.2⟩
theorem wn_small {α : Type} {σ : L2.St} {d : D} {v : V} {f : Int → M α} {C : α → Store → List Addr → Hp → Prop} (r : Rep K fa φ hid H d v) (w : Wn eo K fa W σ φ hid H ((smallI d >>= f) st) C) : ∃ i, v = .int i ∧ d = .int i ∧ small i = true ∧ Wn eo K fa W σ φ hid H (f i st) C := by
  cases r with
  | int i =>
    rw [M.bind_eq] at w
    by_cases hs : small i = true
    · have e : smallI (.int i) st = .ok i st := if_pos hs
      rw [e] at w
      exact ⟨i, rfl, rfl, hs, w⟩
    · have e : smallI (.int i) st = .stuck := if_neg hs
      rw [e] at w
      exact w.elim
  | _ => exact w.elim
theorem star1 {a : Expr} {env : Env} (h : notStar a = true) : starEach [a] env = [(false, eval a env)] := star_cons h
theorem rg1_pi (G : Good T fa eo k N sc X) {a : E} {e tg : Expr} {x : Str} {p pos : Pos} (hx : isBl T sc x "range" = true) (h : PE X e (rdE cf eo X.K fa W a)) (hs : notStar e = true) : PI X tg (.Call (.Name x p) [e] [] pos) (rdI cf eo X.K fa W (.rg1 a)) := by
  obtain ⟨rfl, hg, hm⟩ := isBl_of hx
  refine PI.weak (pi_range1 (G.gl hg) (G.glb.bl _ hm) (pa_cons h pa_nil (star1 hs)) (star1 hs)) fun σ H R q => ?_
  obtain ⟨ρ, st, φ, hid, hE, hS, w⟩ := q
  have w' : Wn eo X.K fa W σ φ hid H ((evE cf a ρ >>= fun x => smallI x >>= fun j => (fun st => .ok (.items (rgI 0 j.toNat 1)) st : M Src)) st) _ := w
  refine rdE_bind hE hS w' fun d st1 φ1 H1 v hE1 hS1 r1 x1 w1 => ?_
  obtain ⟨i, rfl, rfl, hi, w2⟩ := wn_small r1 w1
  exact ⟨i, rfl, (small_at hi).1, (small_at hi).2, w2.now hS1 _ ok_rng⟩
theorem rg2_pi (G : Good T fa eo k N sc X) {a b : E} {e f tg : Expr} {x : Str} {p pos : Pos} (hx : isBl T sc x "range" = true) (h : PE X e (rdE cf eo X.K fa W a)) (h' : PE X f (rdE cf eo X.K fa W b)) (hs : notStar e = true) (hs' : notStar f = true) : PI X tg (.Call (.Name x p) [e, f] [] pos) (rdI cf eo X.K fa W (.rg2 a b)) := by
  obtain ⟨rfl, hg, hm⟩ := isBl_of hx
  refine PI.weak (pi_range2 (G.gl hg) (G.glb.bl _ hm) (pa_cons h (pa_cons h' pa_nil (star1 hs')) (star_cons hs)) (by rw [star_cons hs, star1 hs']) (star1 hs')) fun σ H R q => ?_
  obtain ⟨ρ, st, φ, hid, hE, hS, w⟩ := q
  have w' : Wn eo X.K fa W σ φ hid H ((evE cf a ρ >>= fun x => evE cf b ρ >>= fun y => smallI x >>= fun i => smallI y >>= fun j => (fun st => .ok (.items (rgI i (j - i).toNat 1)) st : M Src)) st) _ := w
  refine rdE_bind hE hS w' fun d st1 φ1 H1 v hE1 hS1 r1 x1 w1 => rdE_bind hE1 hS1 w1 fun d2 st2 φ2 H2 v2 hE2 hS2 r2 x2 w2 => ?_
  obtain ⟨i, rfl, rfl, hi, w3⟩ := wn_small (r1.ext x2) w2
  obtain ⟨j, rfl, rfl, hj, w4⟩ := wn_small r2 w3
  exact ⟨i, j, rfl, ⟨(small_at hi).1, (small_at hi).2, (small_at hj).1, (small_at hj).2⟩, w4.now hS2 _ ok_rng⟩
theorem rg3_pi (G : Good T fa eo k N sc X) {a b c : E} {e f g tg : Expr} {x : Str} {p pos : Pos} (hx : isBl T sc x "range" = true) (h : PE X e (rdE cf eo X.K fa W a)) (h' : PE X f (rdE cf eo X.K fa W b)) (h'' : PE X g (rdE cf eo X.K fa W c)) (hs : notStar e = true) (hs' : notStar f = true) (hs'' : notStar g = true) :
    PI X tg (.Call (.Name x p) [e, f, g] [] pos) (rdI cf eo X.K fa W (.rg3 a b c)) := by
  obtain ⟨rfl, hg, hm⟩ := isBl_of hx
  refine PI.weak (pi_range3 (G.gl hg) (G.glb.bl _ hm) (pa_cons h (pa_cons h' (pa_cons h'' pa_nil (star1 hs'')) (star_cons hs')) (star_cons hs)) (star_cons hs) (star_plain (by simp [hs', hs'']))) fun σ H R q => ?_
  obtain ⟨ρ, st, φ, hid, hE, hS, w⟩ := q
  have w' : Wn eo X.K fa W σ φ hid H ((evE cf a ρ >>= fun x => evE cf b ρ >>= fun y => evE cf c ρ >>= fun z => smallI x >>= fun i => smallI y >>= fun j => (match z with
    | .int c => if c = -1 then (fun st => .ok (.items (rgI i (i - j).toNat (-1))) st) else stuck
    | _ => stuck : M Src)) st) _ := w
  refine rdE_bind hE hS w' fun d st1 φ1 H1 v hE1 hS1 r1 x1 w1 => rdE_bind hE1 hS1 w1 fun d2 st2 φ2 H2 v2 hE2 hS2 r2 x2 w2 => rdE_bind hE2 hS2 w2 fun d3 st3 φ3 H3 v3 hE3 hS3 r3 x3 w3 => ?_
  obtain ⟨i, rfl, rfl, hi, w4⟩ := wn_small ((r1.ext x2).ext x3) w3
  obtain ⟨j, rfl, rfl, hj, w5⟩ := wn_small (r2.ext x3) w4
  cases r3 with
  | int cc =>
    by_cases hc : cc = -1
    · subst hc
      have w6 : Wn eo X.K fa W σ φ3 hid H3 (.ok (.items (rgI i (i - j).toNat (-1))) st3) (fun src _ φ' H' => ∀ J, ItOk X.K fa J src φ' hid H' → R J H') := w5
      exact ⟨i, j, -1, (i - j).toNat, rfl, RgC.neg (small_at hi).1 (small_at hi).2 (small_at hj).1 (small_at hj).2, w6.now hS3 _ ok_rngC⟩
    · have e6 : (if cc = -1 then (fun st => .ok (.items (rgI i (i - j).toNat (-1))) st : M Src) else stuck) st3 = .stuck := by
        simp only [hc, if_false, ite_false, reduceIte]; rfl
      have w6 : Wn eo X.K fa W σ φ3 hid H3 ((if cc = -1 then (fun st => .ok (.items (rgI i (i - j).toNat (-1))) st : M Src) else stuck) st3) (fun src _ φ' H' => ∀ J, ItOk X.K fa J src φ' hid H' → R J H') := w5
      rw [e6] at w6
      exact (show False from w6).elim
  | _ => exact (show False from w5).elim
theorem zipD_get : ∀ {xs ys : List D} {i : Nat} {d : D}, (zipD xs ys)[i]? = some d → ∃ x y, d = .tup [x, y] ∧ xs[i]? = some x ∧ ys[i]? = some y
  | [], _, _, _, h => by simp [zipD] at h
  | _ :: _, [], _, _, h => by simp [zipD] at h
  | x :: xs, y :: ys, 0, d, h => ⟨x, y, (Option.some.inj h).symm, rfl, rfl⟩
  | x :: xs, y :: ys, i + 1, d, h => by
    have h' : (zipD xs ys)[i]? = some d := h
    obtain ⟨u, v, h1, h2, h3⟩ := zipD_get h'
    exact ⟨u, v, h1, h2, h3⟩
theorem zipD_none : ∀ {xs ys : List D} {i : Nat}, (zipD xs ys)[i]? = none → xs.length ≤ i ∨ ys.length ≤ i
  | [], _, _, _ => .inl (Nat.zero_le _)
  | _ :: _, [], _, _ => .inr (Nat.zero_le _)
  | x :: xs, y :: ys, 0, h => nomatch h
  | x :: xs, y :: ys, i + 1, h => by
    have h' : (zipD xs ys)[i]? = none := h
    rcases zipD_none h' with q | q
    · exact .inl (Nat.succ_le_succ q)
    · exact .inr (Nat.succ_le_succ q)
theorem pair_new {T' : Addr} {x y : V} {d1 d2 : D} {st' : Store} (S : StoreOk K fa st' φ hid H) (hT : H T' = none) (r1 : Rep K fa φ hid H d1 x) (r2 : Rep K fa φ hid H d2 y) : Ext φ H φ (upd H T' (.tup [x, y])) ∧ StoreOk K fa st' φ hid (upd H T' (.tup [x, y])) ∧ Rep K fa φ hid (upd H T' (.tup [x, y])) (.tup [d1, d2]) (.ref T') :=
  ⟨.new hT, S.new hT, .newTup S hT (.cons r1 (.cons r2 .nil))⟩
theorem zip_pi (G : Good T fa eo k N sc X) {a b : E} {e f : Expr} {elts : List Expr} {kk : Nat} {tpos : Pos} {x : Str} {p pos : Pos} (hx : isBl T sc x "zip" = true) (h : PE X e (rdE cf eo X.K fa W a)) (h' : PE X f (rdE cf eo X.K fa W b)) (hs : notStar e = true) (hs' : notStar f = true) :
    PI X (.Tuple elts kk tpos) (.Call (.Name x p) [e, f] [] pos) (rdI cf eo X.K fa W (.zip a b)) := by
  obtain ⟨rfl, hg, hm⟩ := isBl_of hx
  refine PI.weak (RZ.pi_zipA (G.gl hg) (G.glb.bl _ hm) (pa_cons h (pa_cons h' pa_nil (star1 hs')) (star_cons hs)) (star_cons hs) (star_plain (by simp [hs']))) fun σ H R q => ?_
  obtain ⟨ρ, st, φ, hid, hE, hS, w⟩ := q
  have w' : Wn eo X.K fa W σ φ hid H ((evE cf a ρ >>= fun x => evE cf b ρ >>= fun y => zipSrc x y) st) _ := w
  refine rdE_bind hE hS w' fun d st1 φ1 H1 v hE1 hS1 r1 x1 w1 => rdE_bind hE1 hS1 w1 fun d2 st2 φ2 H2 v2 hE2 hS2 r2 x2 w2 => ?_
  replace r1 := r1.ext x2
  cases r1 with
  | @tup xs vs ad t r =>
    cases r2 with
    | @tup ys us ad' t' r' =>
      refine ⟨ad, ad', vs, us, rfl, .inr ⟨t.sq, t'.sq, w2.now hS2 _ ?_⟩⟩
      intro hid' hh i φ' H' st' ex S xs' hx
      cases hx
      have t1 := (t.hids hh).ext ex
      have t2 := (t'.hids hh).ext ex
      have q1 : Reps X.K fa φ' hid' H' xs vs := (r.hids hh).ext ex
      have q2 : Reps X.K fa φ' hid' H' ys us := (r'.hids hh).ext ex
      refine ⟨fun d hd => ?_, fun hd => ⟨vs, us, t1.sq, t2.sq, ?_⟩⟩
      · obtain ⟨x, y, rfl, hx, hy⟩ := zipD_get hd
        obtain ⟨u, hu, ru⟩ := q1.get hx
        obtain ⟨z, hz, rz⟩ := q2.get hy
        refine ⟨⟨vs, us, u, z, t1.sq, t2.sq, hu, hz⟩, fun w H2 yy => ?_⟩
        obtain ⟨T', x0, y0, rfl, hT, rfl, y1, y2⟩ := yy
        cases rd_of (y1 vs t1.sq) hu
        cases rd_of (y2 us t2.sq) hz
        exact pair_new S hT ru rz
      · rw [q1.length, q2.length]
        exact zipD_none hd
    | _ => exact (show False from w2).elim
  | @lst xs vs ad t n m r =>
    cases r2 with
    | @lst ys us ad' t' n' m' r' =>
      refine ⟨ad, ad', vs, us, rfl, .inl ⟨.inl (.inl t), .inl (.inl t'), w2.now hS2 _ ?_⟩⟩
      intro hid' hh i φ' H' st' ex S xs' hx
      cases hx
      have t1 : SqL X.K H' ad vs := .inl (.inl (keepExt t ex n).1)
      have t2 : SqL X.K H' ad' us := .inl (.inl (keepExt t' ex n').1)
      have q1 : Reps X.K fa φ' hid' H' xs vs := (r.hids hh).ext ex
      have q2 : Reps X.K fa φ' hid' H' ys us := (r'.hids hh).ext ex
      refine ⟨fun d hd => ?_, fun hd => ⟨vs, us, t1, t2, ?_⟩⟩
      · obtain ⟨x, y, rfl, hx, hy⟩ := zipD_get hd
        obtain ⟨u, hu, ru⟩ := q1.get hx
        obtain ⟨z, hz, rz⟩ := q2.get hy
        refine ⟨⟨vs, us, u, z, t1, t2, hu, hz⟩, fun w H2 yy => ?_⟩
        obtain ⟨T', x0, y0, rfl, hT, rfl, y1, y2⟩ := yy
        cases rd_of (y1 vs t1) hu
        cases rd_of (y2 us t2) hz
        exact pair_new S hT ru rz
      · rw [q1.length, q2.length]
        exact zipD_none hd
    | _ => exact (show False from w2).elim
  | _ => cases r2 <;> exact (show False from w2).elim
theorem enumD_get : ∀ {xs : List D} {m i : Nat} {d : D}, (enumD m xs)[i]? = some d → ∃ x, d = .tup [.int ((m + i : Nat) : Int), x] ∧ xs[i]? = some x
  | [], _, _, _, h => by simp [enumD] at h
  | x :: xs, m, 0, d, h => ⟨x, (Option.some.inj h).symm, rfl⟩
  | x :: xs, m, i + 1, d, h => by
    have h' : (enumD (m + 1) xs)[i]? = some d := h
    obtain ⟨u, h1, h2⟩ := enumD_get h'
    exact ⟨u, by rw [h1]; have : m + 1 + i = m + (i + 1) := by omega
                 rw [this], h2⟩
theorem enumD_none : ∀ {xs : List D} {m i : Nat}, (enumD m xs)[i]? = none → xs.length ≤ i
  | [], _, _, _ => Nat.zero_le _
  | x :: xs, m, 0, h => nomatch h
  | x :: xs, m, i + 1, h => Nat.succ_le_succ (enumD_none (show (enumD (m + 1) xs)[i]? = none from h))
theorem enum_pi (G : Good T fa eo k N sc X) {a : E} {e : Expr} {elts : List Expr} {kk : Nat} {tpos : Pos} {x : Str} {p pos : Pos} (hx : isBl T sc x "enumerate" = true) (h : PE X e (rdE cf eo X.K fa W a)) (hs : notStar e = true) :
    PI X (.Tuple elts kk tpos) (.Call (.Name x p) [e] [] pos) (rdI cf eo X.K fa W (.enum a)) := by
  obtain ⟨rfl, hg, hm⟩ := isBl_of hx
  refine PI.weak (pi_enum (G.gl hg) (G.glb.bl _ hm) (pa_cons h pa_nil (star1 hs)) (star1 hs)) fun σ H R q => ?_
  obtain ⟨ρ, st, φ, hid, hE, hS, w⟩ := q
  refine rdE_bind hE hS (show Wn eo X.K fa W σ φ hid H ((evE cf a ρ >>= enumSrc) st) _ from w) fun d st1 φ1 H1 v hE1 hS1 r1 x1 w1 => ?_
  cases r1 with
  | @lst xs vs ad t n m r =>
    refine ⟨ad, vs, rfl, .inl (.inl t), w1.now hS1 _ ?_⟩
    intro hid' hh i φ' H' st' ex S xs' hx
    cases hx
    have t1 : SqL X.K H' ad vs := .inl (.inl (keepExt t ex n).1)
    have q1 : Reps X.K fa φ' hid' H' xs vs := (r.hids hh).ext ex
    refine ⟨fun d hd => ?_, fun hd => ⟨vs, t1, ?_⟩⟩
    · obtain ⟨x, rfl, hx⟩ := enumD_get hd
      obtain ⟨u, hu, ru⟩ := q1.get hx
      refine ⟨⟨vs, u, t1, hu⟩, fun w H2 yy => ?_⟩
      obtain ⟨T', x0, rfl, hT, rfl, y1⟩ := yy
      cases rd_of (y1 vs t1) hu
      rw [Nat.zero_add]
      exact pair_new S hT (.int _) ru
    · rw [q1.length]
      exact enumD_none hd
  | _ => exact (show False from w1).elim
end
end PC
set_option Elab.async false
set_option linter.all false
set_option maxRecDepth 100000
set_option maxHeartbeats 4000000
namespace PC
open PySem PySem.Spec L2
section
variable {K : PySem.W.Frag} {fa : Nat → Addr} {φ φ' hid : List Addr} {H H' : Hp} {D0 : Addr} {o : HO} {st : Store}
theorem TupAt.touch {a : Addr} {vs : List V} (h : D0 ∈ hid) (t : TupAt K φ hid H a vs) : TupAt K φ hid (upd H D0 o) a vs := by
  rcases t with ⟨r, n, m⟩ | t
  · exact .inl ⟨by rw [upd_ne (fun e => m (by rw [e]; exact h))]; exact r, n, m⟩
  · exact .inr t
theorem LokAt.touch {a : Addr} {vs : List V} (h : D0 ∈ hid) (t : LokAt K φ hid H a vs) : LokAt K φ hid (upd H D0 o) a vs := by
  rcases t with ⟨u, r, n, m⟩ | t
  · exact .inl ⟨u, by rw [upd_ne (fun e => m (by rw [e]; exact h))]; exact r, n, m⟩
  · exact .inr t
mutual
theorem Rep.touch (h : D0 ∈ hid) : ∀ {d : D} {v : V}, Rep K fa φ hid H d v → Rep K fa φ hid (upd H D0 o) d v
  | _, _, .non => .non
  | _, _, .bl b => .bl b
  | _, _, .int i => .int i
  | _, _, .str s => .str s
  | _, _, .tup t r => .tup (t.touch h) (Reps.touch h r)
  | _, _, .lst (a := a) t n m r => .lst (by rw [upd_ne (fun e => m (by rw [e]; exact h))]; exact t) n m (Reps.touch h r)
  | _, _, .lok t r => .lok (t.touch h) (Reps.touch h r)
  | _, _, .ref q => .ref q
  | _, _, .fn i => .fn i
theorem Reps.touch (h : D0 ∈ hid) : ∀ {xs : List D} {vs : List V}, Reps K fa φ hid H xs vs → Reps K fa φ hid (upd H D0 o) xs vs
  | _, _, .nil => .nil
  | _, _, .cons p t => .cons (Rep.touch h p) (Reps.touch h t)
end
theorem off_app {a : Addr} (n : a ∉ φ) (m : a ∉ D0 :: hid) : a ∉ φ ++ [D0] := fun z => by
  rcases List.mem_append.mp z with q | q
  · exact n q
  · exact m (by rw [List.mem_singleton.mp q]; exact List.mem_cons_self)
mutual
theorem Rep.adopt : ∀ {d : D} {v : V}, Rep K fa φ (D0 :: hid) H d v → Rep K fa (φ ++ [D0]) hid H d v
  | _, _, .non => .non
  | _, _, .bl b => .bl b
  | _, _, .int i => .int i
  | _, _, .str s => .str s
  | _, _, .tup t r => .tup (by
      rcases t with ⟨t, n, m⟩ | t
      · exact .inl ⟨t, off_app n m, fun z => m (List.mem_cons_of_mem _ z)⟩
      · exact .inr t) (Reps.adopt r)
  | _, _, .lst (a := a) t n m r => .lst t (off_app n m) (fun z => m (List.mem_cons_of_mem _ z)) (Reps.adopt r)
  | _, _, .lok t r => .lok (by
      rcases t with ⟨u, t, n, m⟩ | t
      · exact .inl ⟨u, t, off_app n m, fun z => m (List.mem_cons_of_mem _ z)⟩
      · exact .inr t) (Reps.adopt r)
  | _, _, .ref q => .ref (by
      rw [List.getElem?_append_left]
      · exact q
      · exact (List.getElem?_eq_some_iff.mp q).1)
  | _, _, .fn i => .fn i
theorem Reps.adopt : ∀ {xs : List D} {vs : List V}, Reps K fa φ (D0 :: hid) H xs vs → Reps K fa (φ ++ [D0]) hid H xs vs
  | _, _, .nil => .nil
  | _, _, .cons p t => .cons (Rep.adopt p) (Reps.adopt t)
end
theorem Reps.unhide {xs : List D} {vs : List V} (r : Reps K fa φ (D0 :: hid) H xs vs) : Reps K fa φ hid H xs vs := r.hids fun b hb => .inl (List.mem_cons_of_mem _ hb)
theorem StoreOk.hide (S : StoreOk K fa st φ hid H) (hD : H D0 = none) : StoreOk K fa st φ (D0 :: hid) (upd H D0 (.lst [])) where
  len := S.len
  nd := S.nd
  off := fun a ha z => by
    rcases List.mem_cons.mp z with q | q
    · rw [q] at ha
      exact (not_mem_of_none S hD).1 ha
    · exact S.off a ha q
  seen := fun a ha => by
    by_cases q : a = D0
    · rw [q, upd_same]; simp
    · rw [upd_ne q]
      rcases List.mem_cons.mp ha with z | z
      · exact absurd z q
      · exact S.seen a z
  cell := fun n xs hn => by
    obtain ⟨a, vs, h1, h2, h3⟩ := S.cell n xs hn
    refine ⟨a, vs, h1, by rw [upd_ne (ne_of_none h2 hD)]; exact h2, Reps.ext (.new hD) (h3.hids fun b hb => ?_)⟩
    rcases List.mem_cons.mp hb with z | z
    · exact .inr (by rw [z]; exact hD)
    · exact .inl z
theorem StoreOk.touch (S : StoreOk K fa st φ hid H) (hD : D0 ∈ hid) : StoreOk K fa st φ hid (upd H D0 o) where
  len := S.len
  nd := S.nd
  off := S.off
  seen := fun a ha => by
    by_cases q : a = D0
    · rw [q, upd_same]; simp
    · rw [upd_ne q]; exact S.seen a ha
  cell := fun n xs hn => by
    obtain ⟨a, vs, h1, h2, h3⟩ := S.cell n xs hn
    exact ⟨a, vs, h1, by rw [upd_ne (fun e => S.off a (List.mem_of_getElem? h1) (by rw [e]; exact hD))]; exact h2, h3.touch hD⟩
theorem StoreOk.reveal (S : StoreOk K fa st φ (D0 :: hid) H) : StoreOk K fa st φ hid H where
  len := S.len
  nd := S.nd
  off := fun a ha z => S.off a ha (List.mem_cons_of_mem _ z)
  seen := fun a ha => S.seen a (List.mem_cons_of_mem _ ha)
  cell := fun n xs hn => by
    obtain ⟨a, vs, h1, h2, h3⟩ := S.cell n xs hn
    exact ⟨a, vs, h1, h2, h3.unhide⟩
theorem StoreOk.adopt {xs : List D} {vs : List V} (S : StoreOk K fa st φ (D0 :: hid) H) (hD : H D0 = some (.lst vs)) (r : Reps K fa φ (D0 :: hid) H xs vs) (hn : D0 ∉ hid) : StoreOk K fa (st ++ [.lst xs]) (φ ++ [D0]) hid H where
  len := by rw [List.length_append, List.length_append, S.len]; rfl
  nd := by
    rw [List.nodup_append]
    refine ⟨S.nd, by simp, fun a ha b hb => ?_⟩
    rw [List.mem_singleton.mp hb]
    rintro rfl
    exact S.off a ha List.mem_cons_self
  off := fun a ha => by
    rcases List.mem_append.mp ha with h | h
    · exact fun z => S.off a h (List.mem_cons_of_mem _ z)
    · rw [List.mem_singleton.mp h]; exact hn
  seen := fun a ha => S.seen a (List.mem_cons_of_mem _ ha)
  cell := fun n ys hc => by
    by_cases hlt : n < st.length
    · rw [List.getElem?_append_left hlt] at hc
      obtain ⟨a, ws, h1, h2, h3⟩ := S.cell n ys hc
      exact ⟨a, ws, by rw [List.getElem?_append_left (by rw [S.len]; exact hlt)]; exact h1, h2, h3.adopt⟩
    · have e : n = st.length := by
        have := (List.getElem?_eq_some_iff.mp hc).1
        rw [List.length_append, List.length_singleton] at this
        omega
      subst e
      rw [List.getElem?_append_right (Nat.le_refl _), Nat.sub_self] at hc
      cases hc
      exact ⟨D0, vs, by rw [← S.len, List.getElem?_append_right (Nat.le_refl _), Nat.sub_self]; rfl, hD, r.adopt⟩
theorem Ext.touch (e : Ext φ H φ' H') (hD : H D0 = none) : Ext φ H φ' (upd H' D0 o) where
  pre := e.pre
  fr := fun b u h n => by rw [upd_ne (ne_of_none h hD)]; exact e.fr b u h n
  nw := e.nw
theorem Ext.adopt (e : Ext φ H φ' H') (hD : H D0 = none) : Ext φ H (φ' ++ [D0]) H' where
  pre := e.pre.trans (List.prefix_append _ _)
  fr := e.fr
  nw := fun b hb => by
    rcases List.mem_append.mp hb with q | q
    · exact e.nw b q
    · rw [List.mem_singleton.mp q]; exact .inr hD
theorem EnvOk.hids {ρ : Rho} {σ : L2.St} {hid' : List Addr} (h : ∀ b ∈ hid', b ∈ hid ∨ H b = none) (E : EnvOk K fa ρ σ φ hid H) : EnvOk K fa ρ σ φ hid' H :=
  ⟨E.1, fun i d hd => let ⟨v, h1, h2⟩ := E.2 i d hd; ⟨v, h1, h2.hids h⟩⟩
end

def cur (st : Store) : Src → Option (List D)
  | .items ys => some ys
  | .cell n => lstOf st (.ref n)
def At (f : D → M (Option D)) (stF : Store) : Src → Nat → Nat → Store → List D → Prop
  | .items xs, i, m, st, rs => m = xs.length - i ∧ compItems f (xs.drop i) st = .ok rs stF
  | .cell n, i, m, st, rs => compCell f n m i st = .ok rs stF
theorem M.ok_inv {α β : Type} {m : M α} {f : α → M β} {st st' : Store} {b : β} (h : (m >>= f) st = .ok b st') : ∃ a st1, m st = .ok a st1 ∧ f a st1 = .ok b st' := by
  rw [M.bind_eq] at h
  cases q : m st with
  | ok a st1 => rw [q] at h; exact ⟨a, st1, rfl, h⟩
  | exc _ _ => rw [q] at h; cases h
  | stuck => rw [q] at h; cases h
theorem comp_step {f : D → M (Option D)} {g : M (List D)} {x : D} {st stF : Store} {rs : List D} (h : (f x >>= fun o => g >>= fun r => (match o with
    | some d => fun st => .ok (d :: r) st
    | none => fun st => .ok r st : M (List D))) st = .ok rs stF) : ∃ o st1 rs', f x st = .ok o st1 ∧ g st1 = .ok rs' stF ∧ rs = o.toList ++ rs' := by
  obtain ⟨o, st1, q, h⟩ := M.ok_inv h
  obtain ⟨r, st2, q2, h⟩ := M.ok_inv (m := g) h
  cases o with
  | none => cases h; exact ⟨none, st1, _, q, q2, rfl⟩
  | some d => cases h; exact ⟨some d, st1, _, q, q2, rfl⟩
theorem At.turn {f : D → M (Option D)} {stF : Store} {src : Src} {i m : Nat} {st : Store} {rs : List D} (h : At f stF src i m st rs) :
    ∃ xs, cur st src = some xs ∧ ((xs[i]? = none ∧ rs = [] ∧ st = stF) ∨ ∃ x o st1 rs' m', xs[i]? = some x ∧ f x st = .ok o st1 ∧ rs = o.toList ++ rs' ∧ m' < m ∧ At f stF src (i + 1) m' st1 rs') := by
  cases src with
  | items xs =>
    obtain ⟨rfl, h⟩ := h
    refine ⟨xs, rfl, ?_⟩
    by_cases hi : i < xs.length
    · rw [List.drop_eq_getElem_cons hi] at h
      obtain ⟨o, st1, rs', h1, h2, h3⟩ := comp_step (g := compItems f (xs.drop (i + 1))) (show (f xs[i] >>= fun o => compItems f (xs.drop (i + 1)) >>= fun r => (match o with
        | some d => fun st => .ok (d :: r) st
        | none => fun st => .ok r st : M (List D))) st = .ok rs stF from h)
      exact .inr ⟨xs[i], o, st1, rs', xs.length - (i + 1), List.getElem?_eq_getElem hi, h1, h3, by omega, rfl, h2⟩
    · rw [List.drop_eq_nil_of_le (by omega)] at h
      cases h
      exact .inl ⟨List.getElem?_eq_none (by omega), rfl, rfl⟩
  | cell n =>
    have h' : compCell f n m i st = .ok rs stF := h
    cases hc : st[n]? with
    | none =>
      cases m with
      | zero =>
        have h2 : (match st[n]? with
          | some (.lst ys) => if ys.length ≤ i then Res.ok [] st else .stuck
          | none => .stuck) = .ok rs stF := h'
        rw [hc] at h2; cases h2
      | succ m =>
        unfold compCell at h'
        rw [hc] at h'; cases h'
    | some c =>
      cases c with
      | lst ys =>
        have hcur : cur st (.cell n) = some ys := by
          show (match st[n]? with
            | some (.lst xs) => some xs
            | none => none) = some ys
          rw [hc]
        refine ⟨ys, hcur, ?_⟩
        cases m with
        | zero =>
          have h2 : (match st[n]? with
            | some (.lst ys) => if ys.length ≤ i then Res.ok [] st else .stuck
            | none => .stuck) = .ok rs stF := h'
          rw [hc] at h2
          dsimp only at h2
          split at h2
          · rename_i hl
            cases h2
            exact .inl ⟨List.getElem?_eq_none hl, rfl, rfl⟩
          · cases h2
        | succ m =>
          have h2 : (match st[n]? with
            | some (.lst ys) => (match ys[i]? with
              | none => Res.ok [] st
              | some y => (f y >>= fun o => compCell f n m (i + 1) >>= fun r => (match o with
                | some d => fun st => .ok (d :: r) st
                | none => fun st => .ok r st : M (List D))) st)
            | none => .stuck) = .ok rs stF := h'
          rw [hc] at h2
          dsimp only at h2
          cases hy : ys[i]? with
          | none =>
            rw [hy] at h2
            cases h2
            exact .inl ⟨rfl, rfl, rfl⟩
          | some y =>
            rw [hy] at h2
            obtain ⟨o, st1, rs', h1, h3, h4⟩ := comp_step (g := compCell f n m (i + 1)) h2
            exact .inr ⟨y, o, st1, rs', m, rfl, h1, h4, Nat.lt_succ_self _, h3⟩
theorem At.start {f : D → M (Option D)} {stF : Store} {src : Src} {st : Store} {rs : List D} (h : compSrc f src st = .ok rs stF) : ∃ m, At f stF src 0 m st rs := by
  cases src with
  | items xs => exact ⟨_, rfl, h⟩
  | cell n =>
    have h2 : (match st[n]? with
      | some (.lst ys) => compCell f n ys.length 0 st
      | none => .stuck) = .ok rs stF := h
    cases hc : st[n]? with
    | none => rw [hc] at h2; cases h2
    | some c =>
      cases c with
      | lst ys => rw [hc] at h2; exact ⟨_, h2⟩

/-- one item's work -/
def fbody (cf : Nat → List D → M D) (ρ : Rho) (one : Bool) (tg : List Nat) (cond elt : E) (d : D) : M (Option D) := do
      let ρ' ← ofOpt (bindC one tg d ρ)
      let x ← evE cf cond ρ'
      let c ← asBool x
      if c then do
        let y ← evE cf elt ρ'
        fun st => .ok (some y) st
      else fun st => .ok none st
theorem fbody_ok {cf : Nat → List D → M D} {ρ : Rho} {one : Bool} {tg : List Nat} {cond elt : E} {d : D} {st st1 : Store} {o : Option D} (h : fbody cf ρ one tg cond elt d st = .ok o st1) :
    ∃ ρ' c sta, bindC one tg d ρ = some ρ' ∧ evE cf cond ρ' st = .ok (.bl c) sta ∧ ((c = true ∧ ∃ y, evE cf elt ρ' sta = .ok y st1 ∧ o = some y) ∨ (c = false ∧ o = none ∧ st1 = sta)) := by
  obtain ⟨ρ', s1, h1, h⟩ := M.ok_inv h
  obtain ⟨x, s2, h2, h⟩ := M.ok_inv h
  obtain ⟨c, s3, h3, h⟩ := M.ok_inv h
  cases hb : bindC one tg d ρ with
  | none => rw [hb] at h1; cases h1
  | some r =>
    rw [hb] at h1
    cases h1
    cases x with
    | bl b =>
      cases h3
      refine ⟨ρ', c, s2, rfl, h2, ?_⟩
      cases c with
      | true =>
        obtain ⟨y, s4, h4, h⟩ := M.ok_inv h
        cases h
        exact .inl ⟨rfl, y, h4, rfl⟩
      | false => cases h; exact .inr ⟨rfl, rfl, rfl⟩
    | _ => cases h3
/-- what a target is to do -/
def TgOk (K : PySem.W.Frag) (fa : Nat → Addr) (one : Bool) (tg : List Nat) (g : TG) : Prop := ∀ (d : D) (v : V) (ρ ρ' : Rho) (σ : L2.St) (φ hid : List Addr) (H : Hp) (Q : L2.St → Hp → Prop), bindC one tg d ρ = some ρ' → Rep K fa φ hid H d v → EnvOk K fa ρ σ φ hid H →
  (∀ σ2, EnvOk K fa ρ' σ2 φ hid H → wipe σ2 tg = wipe σ tg → Q σ2 H) → g v (wipe σ tg) H Q
section
variable {cf : Nat → List D → M D} {fa : Nat → Addr} {eo : Nat → Option (Value × Option Str)} {W : WX} {K : PySem.W.Frag}
def compFin (cell : Bool) (xs : List D) : M D := fun st => if decide (xs.length ≤ 16777216) then mkL cell xs st else .stuck
abbrev W0 : WX := fun _ _ _ _ => False
theorem comp_rd {cell one : Bool} {elt it cond : E} {tg : List Nat} {g : TG} {σ : L2.St} {H : Hp} {Q : VK} (hg : TgOk K fa one tg g) (q : rdE cf eo K fa W (.comp cell elt tg one it cond) σ H Q) :
    tLc (rdI cf eo K fa W it) g (rdT cf eo K fa W0 cond) (rdE cf eo K fa W0 elt) tg σ H Q := by
  obtain ⟨ρ, st, φ, hid, hE, hS, w⟩ := q
  have w' : Wn eo K fa W σ φ hid H ((evI cf it ρ >>= fun s => noExc (compSrc (fbody cf ρ one tg cond elt) s) >>= fun xs => compFin cell xs) st) (CE K fa hid Q) := w
  refine ⟨ρ, st, φ, hid, hE, hS, w'.step fun src st1 φ1 H1 ex1 S1 w1 J hJ D0 hD => ?_⟩
  rw [M.bind_eq] at w1
  cases hc : compSrc (fbody cf ρ one tg cond elt) src st1 with
  | exc e s =>
    have : noExc (compSrc (fbody cf ρ one tg cond elt) src) st1 = .stuck := by unfold noExc; rw [hc]
    rw [this] at w1; exact w1.elim
  | stuck =>
    have : noExc (compSrc (fbody cf ρ one tg cond elt) src) st1 = .stuck := by unfold noExc; rw [hc]
    rw [this] at w1; exact w1.elim
  | ok tot stF =>
    have : noExc (compSrc (fbody cf ρ one tg cond elt) src) st1 = .ok tot stF := by unfold noExc; rw [hc]
    rw [this] at w1
    have w2 : Wn eo K fa W σ φ1 hid H1 (if decide (tot.length ≤ 16777216) then mkL cell tot stF else .stuck) (CE K fa hid Q) := w1
    have hlen : tot.length ≤ 16777216 := by
      by_cases q : tot.length ≤ 16777216
      · exact q
      · rw [if_neg (by simpa using q)] at w2; exact w2.elim
    rw [if_pos (by simpa using hlen)] at w2
    obtain ⟨m0, a0⟩ := At.start hc
    have hDh : D0 ∉ hid := (not_mem_of_none S1 hD).2
    have hh : ∀ b ∈ D0 :: hid, b ∈ hid ∨ H1 b = none := fun b hb => by
      rcases List.mem_cons.mp hb with z | z
      · exact .inr (by rw [z]; exact hD)
      · exact .inl z
    refine ⟨fun i m H' => ∃ φ' st' acc vs rs, Ext φ1 H1 φ' H' ∧ StoreOk K fa st' φ' (D0 :: hid) H' ∧ H' D0 = some (.lst vs) ∧ Reps K fa φ' (D0 :: hid) H' acc vs ∧ acc ++ rs = tot ∧ At (fbody cf ρ one tg cond elt) stF src i m st' rs,
      ⟨m0, φ1, st1, [], [], tot, .new hD, S1.hide hD, upd_same, .nil, rfl, a0⟩, ?_⟩
    rintro i m H' ⟨φ', st', acc, vs, rs, ex, S, hL, r, htot, at'⟩
    have hDφ : D0 ∉ φ' := fun z => S.off D0 z List.mem_cons_self
    obtain ⟨xs, hx, hcase⟩ := at'.turn
    have hJ' := hJ (D0 :: hid) hh i φ' H' st' ex S xs (by cases src <;> exact hx)
    rcases hcase with ⟨hn, rfl, rfl⟩ | ⟨x, o, st2, rs', m', hxi, hf, rfl, hm, at2⟩
    · refine .inl ⟨hJ'.2 hn, ?_⟩
      rw [List.append_nil] at htot
      subst htot
      cases cell with
      | false => exact (show Wn eo K fa W σ φ1 hid H1 (.ok (.lst acc) st') (CE K fa hid Q) from w2) H' φ' ex S.reveal _ (.lst hL hDφ hDh r.unhide)
      | true => exact (show Wn eo K fa W σ φ1 hid H1 (.ok (.ref st'.length) (st' ++ [.lst acc])) (CE K fa hid Q) from w2) H' (φ' ++ [D0]) (ex.adopt hD) (S.adopt hL r hDh) _ (.ref (by rw [← S.len, List.getElem?_append_right (Nat.le_refl _), Nat.sub_self]; rfl))
    · obtain ⟨hgo, hyld⟩ := hJ'.1 x hxi
      refine .inr ⟨hgo, _, fun H'' nx => ⟨m', hm, nx⟩, fun v H2 y => ?_⟩
      obtain ⟨ex2, S2, r2⟩ := hyld v H2 y
      have hE2 : EnvOk K fa ρ σ φ' (D0 :: hid) H2 := (((hE.ext ex1).hids hh).ext ex).ext ex2
      obtain ⟨ρ', c, sta, hb, hcd, hrest⟩ := fbody_ok hf
      refine hg x v ρ ρ' σ φ' (D0 :: hid) H2 _ hb r2 hE2 fun σ2 hE3 hw => ⟨hw, ρ', st', φ', D0 :: hid, hE3, S2, ?_⟩
      have e1 : (evE cf cond ρ' >>= asBool) st' = .ok c sta := by rw [M.bind_eq, hcd]; rfl
      rw [e1]
      intro H3 φ3 ex3 S3
      show if c = true then _ else _
      rcases hrest with ⟨rfl, yv, hev, rfl⟩ | ⟨rfl, rfl, rfl⟩
      · rw [if_pos rfl]
        refine ⟨ρ', sta, φ3, D0 :: hid, hE3.ext ex3, S3, ?_⟩
        rw [hev]
        intro H4 φ4 ex4 S4 u ru
        have q2 := keepExt hL ex2 hDφ
        have q3 := keepExt q2.1 ex3 q2.2
        have q4 := keepExt q3.1 ex4 q3.2
        refine ⟨vs, q4.1, ?_, φ4, st2, acc ++ [yv], vs ++ [u], rs', (((ex.trans ex2).trans ex3).trans ex4).touch hD, S4.touch List.mem_cons_self, upd_same, Reps.touch List.mem_cons_self ((((r.ext ex2).ext ex3).ext ex4).append (.cons ru .nil)), ?_, at2⟩
        · rw [r.length, sizeLine_eq]
          have : (acc ++ ((some yv).toList ++ rs')).length = tot.length := by rw [htot]
          rw [List.length_append, List.length_append] at this
          have e3 : (some yv).toList.length = 1 := rfl
          omega
        · rw [← htot, List.append_assoc]; rfl
      · rw [if_neg (by decide)]
        have q2 := keepExt hL ex2 hDφ
        have q3 := keepExt q2.1 ex3 q2.2
        exact ⟨φ3, st2, acc, vs, rs', (ex.trans ex2).trans ex3, S3, q3.1, (r.ext ex2).ext ex3, htot, at2⟩
end
end PC
set_option Elab.async false
set_option linter.all false
set_option maxRecDepth 100000
set_option maxHeartbeats 4000000
namespace PC
open PySem PySem.Spec L2
def setV : List Nat → List V → L2.St → L2.St
  | i :: is, v :: vs, σ => setV is vs (σ.set i (some v))
  | _, _, σ => σ
theorem wipe_in {σ : L2.St} {i : Nat} : ∀ {vs : List Nat}, i ∈ vs → (wipe σ vs)[i]? = if i < σ.length then some none else none
  | v :: vs, h => by
    show ((wipe σ vs).set v none)[i]? = _
    by_cases e : v = i
    · subst e
      by_cases hl : v < σ.length
      · rw [List.getElem?_set_self (by rw [wipe_length]; exact hl), if_pos hl]
      · rw [if_neg hl, List.getElem?_eq_none (by rw [List.length_set, wipe_length]; omega)]
    · rw [List.getElem?_set_ne e]
      exact wipe_in ((List.mem_cons.mp h).resolve_left fun q => e q.symm)
theorem wipe_set {σ : L2.St} {i : Nat} {x : Option V} {vs : List Nat} (h : i ∈ vs) : wipe (σ.set i x) vs = wipe σ vs := by
  apply List.ext_getElem?
  intro j
  by_cases hj : j ∈ vs
  · rw [wipe_in hj, wipe_in hj, List.length_set]
  · rw [wipe_out hj, wipe_out hj, List.getElem?_set_ne (fun e => hj (by rw [← e]; exact h))]
theorem wipe_wipe {σ : L2.St} {vs : List Nat} : wipe (wipe σ vs) vs = wipe σ vs := by
  apply List.ext_getElem?
  intro j
  by_cases hj : j ∈ vs
  · rw [wipe_in hj, wipe_in hj, wipe_length]
  · rw [wipe_out hj]
theorem wipe_setV {us : List Nat} : ∀ {is : List Nat} {vs : List V} {σ : L2.St}, (∀ i ∈ is, i ∈ us) → wipe (setV is vs σ) us = wipe σ us
  | [], _, _, _ => by unfold setV; rfl
  | _ :: _, [], _, _ => by unfold setV; rfl
  | i :: is, v :: vs, σ, h => by
    show wipe (setV is vs (σ.set i (some v))) us = _
    rw [wipe_setV fun j hj => h j (List.mem_cons_of_mem _ hj), wipe_set (h i List.mem_cons_self)]
theorem setMany_env {K : PySem.W.Frag} {fa : Nat → Addr} {φ hid : List Addr} {H : Hp} : ∀ {is : List Nat} {ds : List D} {vs : List V} {ρ ρ' : Rho} {σ : L2.St}, setMany is ds ρ = some ρ' → Reps K fa φ hid H ds vs → σ.length = ρ.length → (∀ j d, j ∉ is → ρ[j]? = some (some d) → ∃ v, σ[j]? = some (some v) ∧ Rep K fa φ hid H d v) → EnvOk K fa ρ' (setV is vs σ) φ hid H
  | [], [], _, ρ, ρ', σ, h, .nil, hl, hr => by
    cases h
    exact ⟨hl, fun j d hd => hr j d (by simp) hd⟩
  | i :: is, d :: ds, _, ρ, ρ', σ, h, .cons (v := v) (vs := vs) r rs, hl, hr => by
    have h' : setMany is ds (ρ.set i (some d)) = some ρ' := h
    show EnvOk K fa ρ' (setV is vs (σ.set i (some v))) φ hid H
    refine setMany_env h' rs (by rw [List.length_set, List.length_set]; exact hl) fun j e hj he => ?_
    by_cases q : i = j
    · subst q
      have hlt : i < ρ.length := by
        have := (List.getElem?_eq_some_iff.mp he).1
        rwa [List.length_set] at this
      rw [List.getElem?_set_self hlt] at he
      cases he
      exact ⟨v, List.getElem?_set_self (by rw [hl]; exact hlt), r⟩
    · rw [List.getElem?_set_ne q] at he
      obtain ⟨u, h1, h2⟩ := hr j e (fun z => (List.mem_cons.mp z).elim (fun w => q w.symm) hj) he
      exact ⟨u, by rw [List.getElem?_set_ne q]; exact h1, h2⟩
  | [], _ :: _, _, _, _, _, h, _, _, _ => nomatch h
  | _ :: _, [], _, _, _, _, h, _, _, _ => nomatch h
theorem setMany_len : ∀ {is : List Nat} {ds : List D} {ρ ρ' : Rho}, setMany is ds ρ = some ρ' → ds.length = is.length
  | [], [], _, _, _ => rfl
  | i :: is, d :: ds, ρ, ρ', h => by
    have h' : setMany is ds (ρ.set i (some d)) = some ρ' := h
    rw [List.length_cons, List.length_cons, setMany_len h']
  | [], _ :: _, _, _, h => nomatch h
  | _ :: _, [], _, _, h => nomatch h
def gNames : List Nat → TGs
  | [] => gNil
  | i :: is => gCons (gName i) (gNames is)
theorem gNames_of {H : Hp} {Q : L2.St → Hp → Prop} : ∀ {is : List Nat} {vs : List V} {σ : L2.St}, vs.length = is.length → Q (setV is vs σ) H → gNames is vs σ H Q
  | [], [], _, _, q => ⟨rfl, q⟩
  | i :: is, v :: vs, σ, h, q => ⟨v, vs, rfl, gNames_of (is := is) (by simpa using h) q⟩
  | [], _ :: _, _, h, _ => by simp at h
  | _ :: _, [], _, h, _ => by simp at h
section
variable {K : PySem.W.Frag} {fa : Nat → Addr}
theorem env_wiped {ρ : Rho} {σ : L2.St} {φ hid : List Addr} {H : Hp} {tg : List Nat} (E : EnvOk K fa ρ σ φ hid H) : (wipe σ tg).length = ρ.length ∧ ∀ j d, j ∉ tg → ρ[j]? = some (some d) → ∃ v, (wipe σ tg)[j]? = some (some v) ∧ Rep K fa φ hid H d v := by
  refine ⟨by rw [wipe_length]; exact E.1, fun j d hj hd => ?_⟩
  obtain ⟨v, h1, h2⟩ := E.2 j d hd
  exact ⟨v, by rw [wipe_out hj]; exact h1, h2⟩
theorem tg_one {i : Nat} : TgOk K fa true [i] (gName i) := by
  intro d v ρ ρ' σ φ hid H Q hb r E h
  have hb' : setMany [i] [d] ρ = some ρ' := hb
  have := setMany_env (vs := [v]) hb' (.cons r .nil) (env_wiped (tg := [i]) E).1 (env_wiped E).2
  exact h _ this (by rw [show (wipe σ [i]).set i (some v) = setV [i] [v] (wipe σ [i]) from rfl, wipe_setV (fun j hj => hj), wipe_wipe])
theorem tg_tup {tg : List Nat} : TgOk K fa false tg (gTup K tg.length (gNames tg)) := by
  intro d v ρ ρ' σ φ hid H Q hb r E h
  cases r with
  | @tup xs vs a t rs =>
    have hb' : setMany tg xs ρ = some ρ' := hb
    have hl : vs.length = tg.length := by rw [rs.length, setMany_len hb']
    refine ⟨a, vs, rfl, t.sq, hl, gNames_of hl (h _ (setMany_env hb' rs (env_wiped E).1 (env_wiped E).2) ?_)⟩
    rw [wipe_setV (fun j hj => hj), wipe_wipe]
  | _ => cases hb
end
/-- a comprehension's target: its names with their slots -/
def ownN (N : List Str) (scope : Scope) : List Nat → List Expr → Option (List (Str × Nat))
  | [], [] => some []
  | i :: is, .Name x _ :: es => if decide (N[i]? = some x) && (decide (scope.names.lookup x = some .local) || decide (scope.names.lookup x = some .cell)) then (ownN N scope is es).map ((x, i) :: ·) else none
  | _, _ => none
def ownOf (N : List Str) (scope : Scope) (one : Bool) (tg : List Nat) : Expr → Option (List (Str × Nat))
  | .Name x p => if one then ownN N scope tg [.Name x p] else none
  | .Tuple es _ _ => if one then none else ownN N scope tg es
  | _ => none
theorem ownN_ix {N : List Str} {scope : Scope} : ∀ {tg : List Nat} {es : List Expr} {own : List (Str × Nat)}, ownN N scope tg es = some own → own.map (·.2) = tg ∧ es.length = tg.length
  | [], [], _, h => by cases h; exact ⟨rfl, rfl⟩
  | i :: is, .Name x _ :: es, own, h => by
    have h' : (if decide (N[i]? = some x) && (decide (scope.names.lookup x = some .local) || decide (scope.names.lookup x = some .cell)) then (ownN N scope is es).map ((x, i) :: ·) else none) = some own := h
    split at h'
    · obtain ⟨r, h1, rfl⟩ := Option.map_eq_some_iff.mp h'
      obtain ⟨q1, q2⟩ := ownN_ix h1
      exact ⟨by rw [List.map_cons, q1], by rw [List.length_cons, List.length_cons, q2]⟩
    · cases h'
  | [], _ :: _, _, h => nomatch h
  | _ :: _, [], _, h => nomatch h
  | _ :: _, .BoolOp .. :: _, _, h | _ :: _, .NamedExpr .. :: _, _, h | _ :: _, .BinOp .. :: _, _, h | _ :: _, .UnaryOp .. :: _, _, h | _ :: _, .Lambda .. :: _, _, h | _ :: _, .IfExp .. :: _, _, h | _ :: _, .Dict .. :: _, _, h | _ :: _, .Set .. :: _, _, h | _ :: _, .ListComp .. :: _, _, h | _ :: _, .SetComp .. :: _, _, h | _ :: _, .DictComp .. :: _, _, h | _ :: _, .GeneratorExp .. :: _, _, h | _ :: _, .Await .. :: _, _, h | _ :: _, .Yield .. :: _, _, h | _ :: _, .YieldFrom .. :: _, _, h | _ :: _, .Compare .. :: _, _, h | _ :: _, .Call .. :: _, _, h | _ :: _, .FormattedValue .. :: _, _, h | _ :: _, .JoinedStr .. :: _, _, h | _ :: _, .Constant .. :: _, _, h | _ :: _, .Attribute .. :: _, _, h | _ :: _, .Subscript .. :: _, _, h | _ :: _, .Starred .. :: _, _, h | _ :: _, .List .. :: _, _, h | _ :: _, .Tuple .. :: _, _, h | _ :: _, .Slice .. :: _, _, h => nomatch h
section
variable {T : Tab} {sc : Scope} {k : Nat} {N : List Str} {X : Cx} {fa : Nat → Addr} {eo : Nat → Option (Value × Option Str)}
theorem Good.blk (G : Good T fa eo k N sc X) (s : Shared) (H : Hp) (scope : Scope) (cl : List (Str × Addr)) (C : Addr) (fp : List Addr) : Good T fa eo k N (relS scope sc) (X.blk s H scope (compEnvC scope cl C X.env) fp) where
  hN := G.hN
  nd := G.nd
  sc := by rw [← G.sc]; rfl
  calm := G.calm
  room := G.room
  glb := G.glb
  fns := G.fns
theorem blk_name {scope : Scope} {s : Shared} {H : Hp} {cl : List (Str × Addr)} {C : Addr} {fp : List Addr} {i : Nat} {x : Str} {p : Pos} (G : Good T fa eo k N sc X) (hi : N[i]? = some x) (hx : scope.names.lookup x = some .local ∨ scope.names.lookup x = some .cell) : PG (X.blk s H scope (compEnvC scope cl C X.env) fp) (.Name x p) (gName i) := by
  have loc : (relS scope X.env.scope).names.lookup x = some .local ∨ (relS scope X.env.scope).names.lookup x = some .cell := by
    rcases hx with h | h
    · exact .inl (lookup_relS_keep (by decide) h)
    · exact .inr (lookup_relS_keep (by decide) h)
  refine pg_name (X := X.blk s H scope (compEnvC scope cl C X.env) fp) (by show X.N.Nodup; rw [G.hN]; exact G.nd) (by show X.N[i]? = _; rw [G.hN]; exact hi) loc ?_
  rcases hx with h | h
  · exact .inr (lookup_relS_keep (by decide) h)
  · refine .inl ?_
    show (scope.names.lookup x == some .cell) = true
    rw [h]; rfl
theorem blk_names {scope : Scope} {s : Shared} {H : Hp} {cl : List (Str × Addr)} {C : Addr} {fp : List Addr} (G : Good T fa eo k N sc X) : ∀ {tg : List Nat} {es : List Expr} {own : List (Str × Nat)}, ownN N scope tg es = some own → PGs (X.blk s H scope (compEnvC scope cl C X.env) fp) es (gNames tg) ∧ (assignEach es (compEnvC scope cl C X.env)).length = es.length ∧ (assignEach es (compEnvC scope cl C X.env)).findIdx? (·.1) = none
  | [], [], _, h => ⟨pgs_nil, rfl, rfl⟩
  | i :: is, .Name x _ :: es, own, h => by
    have h' : (if decide (N[i]? = some x) && (decide (scope.names.lookup x = some .local) || decide (scope.names.lookup x = some .cell)) then (ownN N scope is es).map ((x, i) :: ·) else none) = some own := h
    split at h'
    · rename_i hc
      rw [Bool.and_eq_true, Bool.or_eq_true] at hc
      obtain ⟨r, h1, rfl⟩ := Option.map_eq_some_iff.mp h'
      obtain ⟨q1, q2, q3⟩ := blk_names G h1 (s := s) (H := H) (cl := cl) (C := C) (fp := fp)
      refine ⟨pgs_cons (blk_name G (of_decide_eq_true hc.1) (hc.2.imp (fun h => of_decide_eq_true h) (fun h => of_decide_eq_true h))) q1, ?_, ?_⟩
      · show (assignEach es _).length + 1 = es.length + 1
        rw [q2]
      · show ((false, assign (.Name _ _) (compEnvC scope cl C X.env)) :: assignEach es (compEnvC scope cl C X.env)).findIdx? (·.1) = none
        rw [List.findIdx?_cons, q3]; rfl
    · cases h'
  | [], _ :: _, _, h => nomatch h
  | _ :: _, [], _, h => nomatch h
  | _ :: _, .BoolOp .. :: _, _, h | _ :: _, .NamedExpr .. :: _, _, h | _ :: _, .BinOp .. :: _, _, h | _ :: _, .UnaryOp .. :: _, _, h | _ :: _, .Lambda .. :: _, _, h | _ :: _, .IfExp .. :: _, _, h | _ :: _, .Dict .. :: _, _, h | _ :: _, .Set .. :: _, _, h | _ :: _, .ListComp .. :: _, _, h | _ :: _, .SetComp .. :: _, _, h | _ :: _, .DictComp .. :: _, _, h | _ :: _, .GeneratorExp .. :: _, _, h | _ :: _, .Await .. :: _, _, h | _ :: _, .Yield .. :: _, _, h | _ :: _, .YieldFrom .. :: _, _, h | _ :: _, .Compare .. :: _, _, h | _ :: _, .Call .. :: _, _, h | _ :: _, .FormattedValue .. :: _, _, h | _ :: _, .JoinedStr .. :: _, _, h | _ :: _, .Constant .. :: _, _, h | _ :: _, .Attribute .. :: _, _, h | _ :: _, .Subscript .. :: _, _, h | _ :: _, .Starred .. :: _, _, h | _ :: _, .List .. :: _, _, h | _ :: _, .Tuple .. :: _, _, h | _ :: _, .Slice .. :: _, _, h => nomatch h
/-- the target's rule -/
def gOf (K : PySem.W.Frag) (one : Bool) (tg : List Nat) : TG := if one then (match tg with | [i] => gName i | _ => fun _ _ _ _ => False) else gTup K tg.length (gNames tg)
theorem tg_ok {K : PySem.W.Frag} {fa : Nat → Addr} {one : Bool} {tg : List Nat} : TgOk K fa one tg (gOf K one tg) := by
  cases one with
  | false => exact tg_tup
  | true =>
    match tg with
    | [i] => exact tg_one
    | [] =>
      intro d v ρ ρ' σ φ hid H Q hb
      cases (show setMany [] [d] ρ = some ρ' from hb)
    | _ :: _ :: _ =>
      intro d v ρ ρ' σ φ hid H Q hb
      cases (show setMany _ [d] ρ = some ρ' from hb)
theorem pg_of {scope : Scope} {s : Shared} {H : Hp} {cl : List (Str × Addr)} {C : Addr} {fp : List Addr} (G : Good T fa eo k N sc X) {one : Bool} {tg : List Nat} {e : Expr} {own : List (Str × Nat)} (h : ownOf N scope one tg e = some own) : PG (X.blk s H scope (compEnvC scope cl C X.env) fp) e (gOf X.K one tg) ∧ own.map (·.2) = tg := by
  unfold ownOf at h
  split at h
  · split at h
    · rename_i x p ho
      subst ho
      obtain ⟨h1, h2⟩ := ownN_ix h
      match tg, h2 with
      | [i], _ =>
        have h' : (if decide (N[i]? = some x) && (decide (scope.names.lookup x = some .local) || decide (scope.names.lookup x = some .cell)) then (ownN N scope [] []).map ((x, i) :: ·) else none) = some own := h
        split at h'
        · rename_i hc
          rw [Bool.and_eq_true, Bool.or_eq_true] at hc
          exact ⟨blk_name G (of_decide_eq_true hc.1) (hc.2.imp (fun h => of_decide_eq_true h) (fun h => of_decide_eq_true h)), h1⟩
        · cases h'
    · cases h
  · split at h
    · cases h
    · rename_i es j p ho
      have ho : one = false := by simpa using ho
      subst ho
      obtain ⟨h1, h2⟩ := ownN_ix h
      obtain ⟨q1, q2, q3⟩ := blk_names G h (s := s) (H := H) (cl := cl) (C := C) (fp := fp)
      exact ⟨pg_tup (X := X.blk s H scope (compEnvC scope cl C X.env) fp) G.calm q1 (q2.trans h2) q3, h1⟩
  · cases h
end
end PC
set_option Elab.async false
set_option linter.all false
set_option maxRecDepth 100000
set_option maxHeartbeats 4000000
namespace PC
open PySem PySem.Spec L2
def nmOk (x : Str) : Bool := !(x == ("__debug__" : Str)) && !(x == ("__classdict__" : Str))
def cstOk : D → Const → Bool
  | .non, .none => true
  | .bl b, .bool c => b == c
  | .int i, .int j => decide (i = j)
  | .str s, .str t => decide (s = t)
  | _, _ => false
def isTrueE : E → Bool
  | .cst (.bl true) => true
  | _ => false
def isTupE : Expr → Bool
  | .Tuple _ _ _ => true
  | _ => false
mutual
def chkE (T : Tab) (N : List Str) : E → Scope → Expr → Bool
  | .var i, sc, e => match e with
    | .Name x _ => decide (N[i]? = some x) && isVis sc x && nmOk x
    | _ => false
  | .cst d, _, e => match e with
    | .Constant c _ _ => cstOk d c
    | _ => false
  | .glo d, sc, e => match e with
    | .Name x _ => isGl sc x && decide (T.con x = some d) && nmOk x
    | _ => false
  | .fnv i, sc, e => match e with
    | .Name x _ => isGl sc x && decide (T.fn x = some i) && nmOk x
    | _ => false
  | .tup es, sc, e => match e with
    | .Tuple xs _ _ => chkA T N es sc xs
    | _ => false
  | .lst _ es, sc, e => match e with
    | .List xs _ => chkA T N es sc xs
    | _ => false
  | .bi b es, sc, e => match formOf T sc b e with
    | some ops => chkA T N es sc ops
    | none => false
  | .sl _ l h a lo hi, sc, e => match e with
    | .Subscript a' (.Slice lo' hi' none _) _ => chkE T N a sc a' && (match l, lo' with
      | true, some x => chkE T N lo sc x
      | false, none => true
      | _, _ => false) && (match h, hi' with
      | true, some x => chkE T N hi sc x
      | false, none => true
      | _, _ => false)
    | _ => false
  | .mth b o es, sc, e => match e with
    | .Call (.Attribute o' n ap) args [] cp => plainObj o' && (ap.endLine == cp.line) && decide (args.length < 20) && chkE T N o sc o' && chkA T N es sc args && (match b with
      | .append => decide (n = ("append" : Str))
      | .pop => decide (n = ("pop" : Str)) && decide (args.length = 0)
      | .popAt => decide (n = ("pop" : Str)) && decide (args.length = 1)
      | _ => false)
    | _ => false
  | .and_ a b, sc, e => match e with
    | .BoolOp .And (x :: y :: []) _ => chkE T N a sc x && chkE T N b sc y
    | .BoolOp .And (x :: y :: z :: r) p => chkE T N a sc x && chkE T N b sc (.BoolOp .And (y :: z :: r) p)
    | _ => false
  | .or_ a b, sc, e => match e with
    | .BoolOp .Or (x :: y :: []) _ => chkE T N a sc x && chkE T N b sc y
    | .BoolOp .Or (x :: y :: z :: r) p => chkE T N a sc x && chkE T N b sc (.BoolOp .Or (y :: z :: r) p)
    | _ => false
  | .not_ a, sc, e => match e with
    | .UnaryOp .Not x _ => chkE T N a sc x
    | _ => false
  | .ite c a b, sc, e => match e with
    | .IfExp x y z _ => chkE T N c sc x && chkE T N a sc y && chkE T N b sc z
    | _ => false
  | .chain o p a b c, sc, e => match e with
    | .Compare x [op, op'] [y, z] _ => decide (opOf o = some op) && decide (opOf p = some op') && notSet z && chkE T N a sc x && chkE T N b sc y && chkE T N c sc z
    | _ => false
  | .call f es, sc, e => match e with
    | .Call (.Name x _) (a :: as) [] _ => isGl sc x && decide (T.fn x = some f) && (T.tbl f).isSome && nmOk x && chkA T N es sc (a :: as)
    | _ => false
  | .callv f es, sc, e => match f, e with
    | .var i, .Call (.Name x _) (a :: as) [] _ => decide (N[i]? = some x) && isVis sc x && nmOk x && chkA T N es sc (a :: as)
    | _, _ => false
  | .comp _ elt tg one it cond, sc, e => match e with
    | .ListComp elt' [⟨tg', iter', ifs', 0⟩] scope _ => (match ownOf N scope one tg tg' with
      | some own => blkC N sc scope own && notSet iter' && chkI T N it sc tg' iter' && (match ifs' with
        | [] => isTrueE cond
        | [c] => chkE T N cond (relS scope sc) c
        | _ => false) && chkE T N elt (relS scope sc) elt'
      | none => false)
    | _ => false
  | .lsI _ it, sc, e => match e with
    | .Call (.Name x _) [r] [] _ => isBl T sc x "list" && notStar r && chkR T N it sc r
    | _ => false
  | .tpI it, sc, e => match e with
    | .Call (.Name x _) [r] [] _ => isBl T sc x "tuple" && notStar r && chkR T N it sc r
    | _ => false
  | _, _, _ => false
def chkA (T : Tab) (N : List Str) : E → Scope → List Expr → Bool
  | .nil, _, xs => xs.isEmpty
  | .cons a b, sc, xs => match xs with
    | x :: r => notStar x && chkE T N a sc x && chkA T N b sc r
    | [] => false
  | _, _, _ => false
def chkI (T : Tab) (N : List Str) : E → Scope → Expr → Expr → Bool
  | .sq a, sc, _, e => chkE T N a sc e
  | .rg1 a, sc, _, e => match e with
    | .Call (.Name x _) [y] [] _ => isBl T sc x "range" && notStar y && chkE T N a sc y
    | _ => false
  | .rg2 a b, sc, _, e => match e with
    | .Call (.Name x _) [y, z] [] _ => isBl T sc x "range" && notStar y && notStar z && chkE T N a sc y && chkE T N b sc z
    | _ => false
  | .rg3 a b c, sc, _, e => match e with
    | .Call (.Name x _) [y, z, u] [] _ => isBl T sc x "range" && notStar y && notStar z && notStar u && chkE T N a sc y && chkE T N b sc z && chkE T N c sc u
    | _ => false
  | .zip a b, sc, tg, e => match e with
    | .Call (.Name x _) [y, z] [] _ => isBl T sc x "zip" && isTupE tg && notStar y && notStar z && chkE T N a sc y && chkE T N b sc z
    | _ => false
  | .enum a, sc, tg, e => match e with
    | .Call (.Name x _) [y] [] _ => isBl T sc x "enumerate" && isTupE tg && notStar y && chkE T N a sc y
    | _ => false
  | _, _, _, _ => false
def chkR (T : Tab) (N : List Str) : E → Scope → Expr → Bool
  | .rg1 a, sc, e => match e with
    | .Call (.Name x _) [y] [] _ => isBl T sc x "range" && notStar y && chkE T N a sc y
    | _ => false
  | .rg2 a b, sc, e => match e with
    | .Call (.Name x _) [y, z] [] _ => isBl T sc x "range" && notStar y && notStar z && chkE T N a sc y && chkE T N b sc z
    | _ => false
  | _, _, _ => false
end
end PC
set_option Elab.async false
set_option linter.all false
set_option maxRecDepth 100000
set_option maxHeartbeats 4000000
namespace PC
open PySem PySem.Spec L2
def plainT : Expr → Bool
  | .UnaryOp .Not _ _ => false
  | .BoolOp _ _ _ => false
  | .IfExp _ _ _ _ => false
  | .Compare _ _ _ _ => false
  | _ => true
theorem pt_plain {X : Cx} {e : Expr} {t : TE} (h : plainT e = true) (p : PE X e t) : PT X e (tB t) := by
  refine pt_val p ?_
  intro whole
  cases e with
  | UnaryOp op _ _ => cases op <;> first | rfl | cases h
  | BoolOp _ _ _ => cases h
  | IfExp _ _ _ _ => cases h
  | Compare _ _ _ _ => cases h
  | _ => rfl
theorem form_plain {T : Tab} {sc : Scope} {b : Bi} {e : Expr} {ops : List Expr} (h : formOf T sc b e = some ops) (hc : isCmp b = false) : plainT e = true := by
  cases b with
  | add c => obtain ⟨l, r, p, rfl, rfl⟩ := bin1_of h; rfl
  | sub => obtain ⟨l, r, p, rfl, rfl⟩ := bin1_of h; rfl
  | mul c => obtain ⟨l, r, p, rfl, rfl⟩ := bin1_of h; rfl
  | fdiv => obtain ⟨l, r, p, rfl, rfl⟩ := bin1_of h; rfl
  | mod => obtain ⟨l, r, p, rfl, rfl⟩ := bin1_of h; rfl
  | neg => obtain ⟨a, p, rfl, rfl⟩ := formNeg_of h; rfl
  | idx => obtain ⟨a, i, p, rfl, rfl, hb⟩ := formIdx_of h; rfl
  | rev c => obtain ⟨a, k1, p1, p2, p3, p, rfl, rfl⟩ := formRev_of h; rfl
  | len => obtain ⟨x, p, a, p2, rfl, rfl, hx⟩ := call1_of h; rfl
  | abs => obtain ⟨x, p, a, p2, rfl, rfl, hx⟩ := call1_of h; rfl
  | int => obtain ⟨x, p, a, p2, rfl, rfl, hx⟩ := call1_of h; rfl
  | str => obtain ⟨x, p, a, p2, rfl, rfl, hx⟩ := call1_of h; rfl
  | sum => obtain ⟨x, p, a, p2, rfl, rfl, hx⟩ := call1_of h; rfl
  | tuple => obtain ⟨x, p, a, p2, rfl, rfl, hx⟩ := call1_of h; rfl
  | list c => obtain ⟨x, p, a, p2, rfl, rfl, hx⟩ := call1_of h; rfl
  | all => obtain ⟨x, p, a, p2, rfl, rfl, hx⟩ := call1_of h; rfl
  | any => obtain ⟨x, p, a, p2, rfl, rfl, hx⟩ := call1_of h; rfl
  | max => obtain ⟨x, p, a, b, p2, rfl, rfl, hx⟩ := call2_of h; rfl
  | min => obtain ⟨x, p, a, b, p2, rfl, rfl, hx⟩ := call2_of h; rfl
  | append => cases h
  | pop => cases h
  | popAt => cases h
  | isinst ts =>
    rcases formIsi_of h with ⟨x, p, a, y, p2, p3, t, rfl, rfl, rfl, h1, h2⟩ | ⟨x, p, a, tes, kk, p2, p3, rfl, rfl, h1, h2, h3⟩ <;> rfl
  | _ => cases hc
theorem nm_of {x : Str} (h : nmOk x = true) : (x == ("__debug__" : Str)) = false ∧ (x == ("__classdict__" : Str)) = false := by
  unfold nmOk at h
  rw [Bool.and_eq_true] at h
  exact ⟨by simpa using h.1, by simpa using h.2⟩
section
variable (cf : Nat → List D → M D) (eo : Nat → Option (Value × Option Str)) (K : PySem.W.Frag) (fa : Nat → Addr) (W : WX)
/-- a range as an argument -/
def rdR (e : E) : L2.St → Hp → (Int → Int → Hp → Prop) → Prop := fun σ H Q => ∃ ρ st φ hid, EnvOk K fa ρ σ φ hid H ∧ StoreOk K fa st φ hid H ∧ Wn eo K fa W σ φ hid H (evI cf e ρ st) (fun src _ φ' H' => ∀ i j, src = .items (rgI i (j - i).toNat 1) → small i = true → small j = true → Q i j H')
end
section
variable {T : Tab} {sc : Scope} {k : Nat} {N : List Str} {X : Cx} {fa : Nat → Addr} {eo : Nat → Option (Value × Option Str)} {W : WX} {es : E} {e : Expr} {ops : List Expr}
/-- what the checker's word is worth -/
structure Snd (T : Tab) (fa : Nat → Addr) (eo : Nat → Option (Value × Option Str)) (k : Nat) (N : List Str) (E : E) : Prop where
  e : ∀ {sc e X W}, Good T fa eo k N sc X → Takes X W → chkE T N E sc e = true → PE X e (rdE (callF T.tbl k) eo X.K fa W E) ∧ PT X e (rdT (callF T.tbl k) eo X.K fa W E)
  a : ∀ {sc es X W}, Good T fa eo k N sc X → Takes X W → chkA T N E sc es = true → AllPE (callF T.tbl k) eo fa X W E es
  i : ∀ {sc tg e X W}, Good T fa eo k N sc X → Takes X W → chkI T N E sc tg e = true → PI X tg e (rdI (callF T.tbl k) eo X.K fa W E)
  r : ∀ {sc e X W}, Good T fa eo k N sc X → Takes X W → chkR T N E sc e = true → L2.PRg X e (rdR (callF T.tbl k) eo X.K fa W E)
theorem Snd.ofE {E : E} (h : ∀ {sc e X W}, Good T fa eo k N sc X → Takes X W → chkE T N E sc e = true → PE X e (rdE (callF T.tbl k) eo X.K fa W E) ∧ PT X e (rdT (callF T.tbl k) eo X.K fa W E)) (ha : ∀ sc es, chkA T N E sc es = false) (hi : ∀ sc tg e, chkI T N E sc tg e = false) (hr : ∀ sc e, chkR T N E sc e = false) : Snd T fa eo k N E where
  e := h
  a := fun {sc es X W} _ _ q => by rw [ha] at q; cases q
  i := fun {sc tg e X W} _ _ q => by rw [hi] at q; cases q
  r := fun {sc e X W} _ _ q => by rw [hr] at q; cases q
theorem both (hp : plainT e = true) {E : E} (p : PE X e (rdE cf eo X.K fa W E)) : PE X e (rdE cf eo X.K fa W E) ∧ PT X e (rdT cf eo X.K fa W E) := ⟨p, PT.weak (pt_plain hp p) fun _ _ _ q => rdT_tB q⟩
theorem snd_var (i : Nat) : Snd T fa eo k N (.var i) := Snd.ofE (fun {sc e X W} G tk h => by
    unfold chkE at h
    split at h
    · rename_i x p
      rw [Bool.and_eq_true, Bool.and_eq_true] at h
      obtain ⟨⟨h1, h2⟩, h3⟩ := h
      refine both rfl (PE.weak (pe_var (by rw [G.hN]; exact of_decide_eq_true h1) (G.vis h2) (nm_of h3).1 (nm_of h3).2) fun σ H Q q => ?_)
      obtain ⟨ρ, st, φ, hid, hE, hS, w⟩ := q
      have w' : Wn eo X.K fa W σ φ hid H (match ρ[i]? with
        | some (some d) => .ok d st
        | _ => .stuck) (CE X.K fa hid Q) := w
      split at w'
      · rename_i d hd
        obtain ⟨v, hv, r⟩ := hE.2 i d hd
        exact ⟨v, hv, w'.now hS _ r⟩
      · exact w'.elim
    · cases h) (fun _ _ => rfl) (fun _ _ _ => rfl) (fun _ _ => rfl)
theorem rd_now {d : D} {E : E} {v : V} {K : PySem.W.Frag} {σ : L2.St} {H : Hp} {Q : VK} (he : ∀ ρ st, evE cf E ρ st = .ok d st) (hr : ∀ φ hid H, Rep K fa φ hid H d v) (q : rdE cf eo K fa W E σ H Q) : Q v H := by
  obtain ⟨ρ, st, φ, hid, hE, hS, w⟩ := q
  rw [he] at w
  exact w.now hS _ (hr _ _ _)
theorem snd_cst (d : D) : Snd T fa eo k N (.cst d) := Snd.ofE (fun {sc e X W} G tk h => by
    unfold chkE at h
    split at h
    · rename_i c j p
      refine both rfl ?_
      cases d with
      | non => cases c <;> first | exact PE.weak pe_non fun σ H Q q => rd_now (fun _ _ => rfl) (fun _ _ _ => .non) q | cases h
      | bl b => cases c <;> first | (have e1 := eq_of_beq (show (b == _) = true from h); subst e1; exact PE.weak pe_bl fun σ H Q q => rd_now (fun _ _ => rfl) (fun _ _ _ => .bl _) q) | cases h
      | int i => cases c <;> first | (have e1 := of_decide_eq_true (show decide (i = _) = true from h); subst e1; exact PE.weak pe_int fun σ H Q q => rd_now (fun _ _ => rfl) (fun _ _ _ => .int _) q) | cases h
      | str s => cases c <;> first | (have e1 := of_decide_eq_true (show decide (s = _) = true from h); subst e1; exact PE.weak pe_str fun σ H Q q => rd_now (fun _ _ => rfl) (fun _ _ _ => .str _) q) | cases h
      | _ => cases c <;> cases h
    · cases h) (fun _ _ => rfl) (fun _ _ _ => rfl) (fun _ _ => rfl)
theorem snd_glo (d : D) : Snd T fa eo k N (.glo d) := Snd.ofE (fun {sc e X W} G tk h => by
    unfold chkE at h
    split at h
    · rename_i x p
      rw [Bool.and_eq_true, Bool.and_eq_true] at h
      obtain ⟨⟨h1, h2⟩, h3⟩ := h
      obtain ⟨u, v, hm, hv, hr⟩ := G.glb.con _ _ (of_decide_eq_true h2)
      exact both rfl (PE.weak (pe_glob (G.gl (of_decide_eq_true h1)) hm hv (nm_of h3).1) fun σ H Q q => rd_now (fun _ _ => rfl) hr q)
    · cases h) (fun _ _ => rfl) (fun _ _ _ => rfl) (fun _ _ => rfl)
theorem snd_fnv (i : Nat) : Snd T fa eo k N (.fnv i) := Snd.ofE (fun {sc e X W} G tk h => by
    unfold chkE at h
    split at h
    · rename_i x p
      rw [Bool.and_eq_true, Bool.and_eq_true] at h
      obtain ⟨⟨h1, h2⟩, h3⟩ := h
      exact both rfl (PE.weak (pe_glob (v := .ref (fa i)) (G.gl (of_decide_eq_true h1)) (G.glb.fn _ _ (of_decide_eq_true h2)) rfl (nm_of h3).1) fun σ H Q q => rd_now (fun _ _ => rfl) (fun _ _ _ => .fn _) q)
    · cases h) (fun _ _ => rfl) (fun _ _ _ => rfl) (fun _ _ => rfl)
theorem snd_nil : Snd T fa eo k N .nil where
  e := fun {sc e X W} _ _ h => Bool.noConfusion (show false = true from h)
  a := fun {sc es X W} _ _ h => by
    cases es with
    | nil => exact trivial
    | cons _ _ => exact Bool.noConfusion (show false = true from h)
  i := fun {sc tg e X W} _ _ h => Bool.noConfusion (show false = true from h)
  r := fun {sc e X W} _ _ h => Bool.noConfusion (show false = true from h)
theorem snd_cons {a b : E} (ia : Snd T fa eo k N a) (ib : Snd T fa eo k N b) : Snd T fa eo k N (.cons a b) where
  e := fun {sc e X W} _ _ h => Bool.noConfusion (show false = true from h)
  a := fun {sc es X W} G tk h => by
    unfold chkA at h
    split at h
    · rw [Bool.and_eq_true, Bool.and_eq_true] at h
      exact ⟨⟨(ia.e G tk h.1.2).1, h.1.1⟩, ib.a G tk h.2⟩
    · cases h
  i := fun {sc tg e X W} _ _ h => Bool.noConfusion (show false = true from h)
  r := fun {sc e X W} _ _ h => Bool.noConfusion (show false = true from h)
theorem snd_tup {es : E} (ih : Snd T fa eo k N es) : Snd T fa eo k N (.tup es) := Snd.ofE (fun {sc e X W} G tk h => by
    unfold chkE at h
    split at h
    · exact both rfl (tup_snd (ih.a G tk h))
    · cases h) (fun _ _ => rfl) (fun _ _ _ => rfl) (fun _ _ => rfl)
theorem snd_lst {c : Bool} {es : E} (ih : Snd T fa eo k N es) : Snd T fa eo k N (.lst c es) := Snd.ofE (fun {sc e X W} G tk h => by
    unfold chkE at h
    split at h
    · exact both rfl (lst_snd (ih.a G tk h))
    · cases h) (fun _ _ => rfl) (fun _ _ _ => rfl) (fun _ _ => rfl)
theorem snd_bi {b : Bi} {es : E} (ih : Snd T fa eo k N es) : Snd T fa eo k N (.bi b es) := Snd.ofE (fun {sc e X W} G tk h => by
    unfold chkE at h
    split at h
    · rename_i ops hf
      cases hc : isCmp b with
      | true => exact ⟨cmpR_pe (pc_snd G hc hf (ih.a G tk h)), cmpR_pt (pc_snd G hc hf (ih.a G tk h))⟩
      | false => exact both (form_plain hf hc) (bi_snd G hf (ih.a G tk h))
    · cases h) (fun _ _ => rfl) (fun _ _ _ => rfl) (fun _ _ => rfl)
theorem snd_sl {c l hh : Bool} {a lo hi : E} (ia : Snd T fa eo k N a) (il : Snd T fa eo k N lo) (ih : Snd T fa eo k N hi) : Snd T fa eo k N (.sl c l hh a lo hi) := Snd.ofE (fun {sc e X W} G tk h => by
    unfold chkE at h
    split at h
    · rw [Bool.and_eq_true, Bool.and_eq_true] at h
      obtain ⟨⟨h1, h2⟩, h3⟩ := h
      refine both rfl (sl_snd (ia.e G tk h1).1 ?_ ?_)
      · split at h2
        · exact part_some (il.e G tk h2).1
        · exact part_none
        · cases h2
      · split at h3
        · exact part_some (ih.e G tk h3).1
        · exact part_none
        · cases h3
    · cases h) (fun _ _ => rfl) (fun _ _ _ => rfl) (fun _ _ => rfl)
theorem snd_mth {b : Bi} {o es : E} (io : Snd T fa eo k N o) (ih : Snd T fa eo k N es) : Snd T fa eo k N (.mth b o es) := Snd.ofE (fun {sc e X W} G tk h => by
    unfold chkE at h
    split at h
    · simp only [Bool.and_eq_true] at h
      obtain ⟨⟨⟨⟨⟨h1, h2⟩, h3⟩, h4⟩, h5⟩, h6⟩ := h
      have h3 := of_decide_eq_true h3
      have q := ih.a G tk h5
      refine both rfl ?_
      cases b with
      | append =>
        have e1 := of_decide_eq_true h6
        subst e1
        exact meth_snd F.slot_list_append rfl (appendD (eo := eo) (fa := fa)) (fun _ _ => .inl rfl) h1 h2 h3 (io.e G tk h4).1 q
      | pop =>
        rw [Bool.and_eq_true] at h6
        have e1 := of_decide_eq_true h6.1
        subst e1
        exact meth_snd F.slot_list_pop rfl (popD (eo := eo) (fa := fa)) (fun d ds => by cases ds <;> first | exact .inl rfl | exact .inr rfl) h1 h2 h3 (io.e G tk h4).1 q
      | popAt =>
        rw [Bool.and_eq_true] at h6
        have e1 := of_decide_eq_true h6.1
        subst e1
        exact meth_snd F.slot_list_pop rfl (popD (eo := eo) (fa := fa)) (fun d ds => by cases ds <;> first | exact .inl rfl | exact .inr rfl) h1 h2 h3 (io.e G tk h4).1 q
      | _ => cases h6
    · cases h) (fun _ _ => rfl) (fun _ _ _ => rfl) (fun _ _ => rfl)
theorem snd_and {a b : E} (ia : Snd T fa eo k N a) (ib : Snd T fa eo k N b) : Snd T fa eo k N (.and_ a b) := Snd.ofE (fun {sc e X W} G tk h => by
    unfold chkE at h
    split at h
    · rw [Bool.and_eq_true] at h
      exact ⟨and_pe (ia.e G tk h.1).1 (pe_one (ib.e G tk h.2).1), and_pt (ia.e G tk h.1).2 (pt_of (pw_and1 (ib.e G tk h.2).2))⟩
    · rw [Bool.and_eq_true] at h
      exact ⟨and_pe (ia.e G tk h.1).1 (ib.e G tk h.2).1, and_pt (ia.e G tk h.1).2 (ib.e G tk h.2).2⟩
    · cases h) (fun _ _ => rfl) (fun _ _ _ => rfl) (fun _ _ => rfl)
theorem snd_or {a b : E} (ia : Snd T fa eo k N a) (ib : Snd T fa eo k N b) : Snd T fa eo k N (.or_ a b) := Snd.ofE (fun {sc e X W} G tk h => by
    unfold chkE at h
    split at h
    · rw [Bool.and_eq_true] at h
      exact ⟨or_pe (ia.e G tk h.1).1 (pe_one (ib.e G tk h.2).1), or_pt (ia.e G tk h.1).2 (pt_of (pw_or1 (ib.e G tk h.2).2))⟩
    · rw [Bool.and_eq_true] at h
      exact ⟨or_pe (ia.e G tk h.1).1 (ib.e G tk h.2).1, or_pt (ia.e G tk h.1).2 (ib.e G tk h.2).2⟩
    · cases h) (fun _ _ => rfl) (fun _ _ _ => rfl) (fun _ _ => rfl)
theorem snd_not {a : E} (ia : Snd T fa eo k N a) : Snd T fa eo k N (.not_ a) := Snd.ofE (fun {sc e X W} G tk h => by
    unfold chkE at h
    split at h
    · exact ⟨not_pe (ia.e G tk h).1, not_pt (ia.e G tk h).2⟩
    · cases h) (fun _ _ => rfl) (fun _ _ _ => rfl) (fun _ _ => rfl)
theorem snd_ite {c a b : E} (ic : Snd T fa eo k N c) (ia : Snd T fa eo k N a) (ib : Snd T fa eo k N b) : Snd T fa eo k N (.ite c a b) := Snd.ofE (fun {sc e X W} G tk h => by
    unfold chkE at h
    split at h
    · rw [Bool.and_eq_true, Bool.and_eq_true] at h
      obtain ⟨⟨h1, h2⟩, h3⟩ := h
      exact ⟨ite_pe (ic.e G tk h1).2 (ia.e G tk h2).1 (ib.e G tk h3).1, ite_pt (ic.e G tk h1).2 (ia.e G tk h2).2 (ib.e G tk h3).2⟩
    · cases h) (fun _ _ => rfl) (fun _ _ _ => rfl) (fun _ _ => rfl)
theorem snd_chain {o p : Bi} {a b c : E} (ia : Snd T fa eo k N a) (ib : Snd T fa eo k N b) (ic : Snd T fa eo k N c) : Snd T fa eo k N (.chain o p a b c) := Snd.ofE (fun {sc e X W} G tk h => by
    unfold chkE at h
    split at h
    · simp only [Bool.and_eq_true] at h
      obtain ⟨⟨⟨⟨⟨h1, h2⟩, h3⟩, h4⟩, h5⟩, h6⟩ := h
      exact ⟨chain_pe G (of_decide_eq_true h1) (of_decide_eq_true h2) h3 (ia.e G tk h4).1 (ib.e G tk h5).1 (ic.e G tk h6).1, chain_pt G (of_decide_eq_true h1) (of_decide_eq_true h2) h3 (ia.e G tk h4).1 (ib.e G tk h5).1 (ic.e G tk h6).1⟩
    · cases h) (fun _ _ => rfl) (fun _ _ _ => rfl) (fun _ _ => rfl)
theorem snd_call {f : Nat} {es : E} (ih : Snd T fa eo k N es) : Snd T fa eo k N (.call f es) := Snd.ofE (fun {sc e X W} G tk h => by
    unfold chkE at h
    split at h
    · simp only [Bool.and_eq_true] at h
      obtain ⟨⟨⟨⟨h1, h2⟩, h3⟩, h4⟩, h5⟩ := h
      obtain ⟨d, hd⟩ := Option.isSome_iff_exists.mp h3
      exact both rfl (call_pe G tk (of_decide_eq_true h2) hd h1 (nm_of h4).1 (ih.a G tk h5))
    · cases h) (fun _ _ => rfl) (fun _ _ _ => rfl) (fun _ _ => rfl)
theorem snd_callv {f es : E} (ih : Snd T fa eo k N es) : Snd T fa eo k N (.callv f es) := Snd.ofE (fun {sc e X W} G tk h => by
    unfold chkE at h
    split at h
    · simp only [Bool.and_eq_true] at h
      obtain ⟨⟨⟨h1, h2⟩, h3⟩, h4⟩ := h
      exact both rfl (callv_pe G tk (of_decide_eq_true h1) h2 (nm_of h3).1 (nm_of h3).2 (ih.a G tk h4))
    · cases h) (fun _ _ => by cases f <;> rfl) (fun _ _ _ => by cases f <;> rfl) (fun _ _ => by cases f <;> rfl)
theorem own_tg {N : List Str} {scope : Scope} {one : Bool} {tg : List Nat} {e : Expr} {own : List (Str × Nat)} (h : ownOf N scope one tg e = some own) : own.map (·.2) = tg := by
  unfold ownOf at h
  split at h
  · split at h
    · exact (ownN_ix h).1
    · cases h
  · split at h
    · cases h
    · exact (ownN_ix h).1
  · cases h
theorem folded_of {iter : Expr} {env : Env} (h : notSet iter = true) : ∀ x, foldedSetIterable iter env x = pure x := by
  intro x
  cases iter <;> first | rfl | cases h
theorem snd_comp {cell one : Bool} {elt it cond : E} {tg : List Nat} (ie : Snd T fa eo k N elt) (ii : Snd T fa eo k N it) (ic : Snd T fa eo k N cond) : Snd T fa eo k N (.comp cell elt tg one it cond) := Snd.ofE (fun {sc e X W} G tk h => by
    unfold chkE at h
    split at h
    · rename_i elt' tg' iter' ifs' scope p
      split at h
      · rename_i own ho
        simp only [Bool.and_eq_true] at h
        obtain ⟨⟨⟨⟨h1, h2⟩, h3⟩, h4⟩, h5⟩ := h
        refine both rfl (PE.weak (pe_lc (own := own) (g := gOf X.K one tg) (tt := rdT (callF T.tbl k) eo X.K fa W0 cond) (te := rdE (callF T.tbl k) eo X.K fa W0 elt) G.calm (by rw [G.hN]; exact G.nd) (ii.i G tk h3) (by rw [G.hN, G.sc]; exact blkOk_by h1)
          (fun s H C cl fp => (pg_of G ho).1) (fun s H C cl fp => ?_) (fun s H C cl fp => (ie.e (G.blk s H scope cl C fp) takes0 h5).1) (folded_of h2)) fun σ H Q q => ?_)
        · split at h4
          · refine ⟨fun pins s σ H Q I q => pts_nil.run pins s σ H Q I ?_⟩
            obtain ⟨ρ, st, φ, hid, hE, hS, w⟩ := q
            unfold isTrueE at h4
            split at h4
            · exact (show Wn eo _ fa _ σ φ hid H (.ok true st) _ from w).now hS
            · cases h4
          · exact pts_one (ic.e (G.blk s H scope cl C fp) takes0 h4).2
          · cases h4
        · rw [own_tg ho]
          exact comp_rd tg_ok q
      · cases h
    · cases h) (fun _ _ => rfl) (fun _ _ _ => rfl) (fun _ _ => rfl)
theorem rg_reps {K : PySem.W.Frag} {φ hid : List Addr} {H : Hp} {i j : Int} : Reps K fa φ hid H (rgI i (j - i).toNat 1) (rgV i j) := by
  unfold rgI rgV
  have key : ∀ l : List Nat, Reps K fa φ hid H (l.map fun (n : Nat) => D.int (i + n * 1)) (l.map fun (n : Nat) => V.int (i + (n : Nat))) := by
    intro l
    induction l with
    | nil => exact .nil
    | cons a r ih =>
      rw [List.map_cons, List.map_cons]
      refine .cons ?_ ih
      rw [Int.mul_one]
      exact .int _
  exact key _
theorem rg_len {i j : Int} : (rgI i (j - i).toNat 1).length = (j - i).toNat := by
  unfold rgI; rw [List.length_map, List.length_range]
theorem rgOk_of {i j : Int} (hi : small i = true) (hj : small j = true) (hf : fits (rgI i (j - i).toNat 1).length = true) : RgOk i j := by
  have := of_decide_eq_true hf
  rw [rg_len] at this
  exact ⟨(small_at hi).1, (small_at hi).2, (small_at hj).1, (small_at hj).2, this⟩
def lsFin (c : Bool) (s : Src) : M D := match s with
        | .items xs => mkLst c xs
        | _ => stuck
def tpFin (s : Src) : M D := match s with
        | .items xs => mkTup xs
        | _ => stuck
theorem snd_lsI {c : Bool} {it : E} (ii : Snd T fa eo k N it) : Snd T fa eo k N (.lsI c it) := Snd.ofE (fun {sc e X W} G tk h => by
    unfold chkE at h
    split at h
    · simp only [Bool.and_eq_true] at h
      obtain ⟨⟨h1, h2⟩, h3⟩ := h
      obtain ⟨rfl, hg, hm⟩ := isBl_of h1
      refine both rfl (PE.weak (pe_listRg G.calm (G.gl hg) (G.glb.bl _ hm) (ii.r G tk h3) (star_cons h2)) fun σ H Q q => ?_)
      obtain ⟨ρ, st, φ, hid, hE, hS, w⟩ := q
      have w' : Wn eo X.K fa W σ φ hid H ((evI (callF T.tbl k) it ρ >>= lsFin c) st) (CE X.K fa hid Q) := w
      refine ⟨ρ, st, φ, hid, hE, hS, w'.step fun src st1 φ1 H1 x1 S1 w1 i j es hi hj => ?_⟩
      subst es
      have w2 : Wn eo X.K fa W σ φ1 hid H1 (mkLst c (rgI i (j - i).toNat 1) st1) (CE X.K fa hid Q) := w1
      have w3 : Wn eo X.K fa W σ φ1 hid H1 (if fits (rgI i (j - i).toNat 1).length then mkL c (rgI i (j - i).toNat 1) st1 else .stuck) (CE X.K fa hid Q) := w2
      split at w3
      · rename_i hf
        exact ⟨rgOk_of hi hj hf, Wn.mk S1 rg_reps w3⟩
      · exact w3.elim
    · cases h) (fun _ _ => rfl) (fun _ _ _ => rfl) (fun _ _ => rfl)
theorem snd_tpI {it : E} (ii : Snd T fa eo k N it) : Snd T fa eo k N (.tpI it) := Snd.ofE (fun {sc e X W} G tk h => by
    unfold chkE at h
    split at h
    · simp only [Bool.and_eq_true] at h
      obtain ⟨⟨h1, h2⟩, h3⟩ := h
      obtain ⟨rfl, hg, hm⟩ := isBl_of h1
      refine both rfl (PE.weak (pe_tupRg G.calm (G.gl hg) (G.glb.bl _ hm) (ii.r G tk h3) (star_cons h2)) fun σ H Q q => ?_)
      obtain ⟨ρ, st, φ, hid, hE, hS, w⟩ := q
      have w' : Wn eo X.K fa W σ φ hid H ((evI (callF T.tbl k) it ρ >>= tpFin) st) (CE X.K fa hid Q) := w
      refine ⟨ρ, st, φ, hid, hE, hS, w'.step fun src st1 φ1 H1 x1 S1 w1 i j es hi hj => ?_⟩
      subst es
      have w2 : Wn eo X.K fa W σ φ1 hid H1 (mkTup (rgI i (j - i).toNat 1) st1) (CE X.K fa hid Q) := w1
      have w3 : Wn eo X.K fa W σ φ1 hid H1 (if fits (rgI i (j - i).toNat 1).length then .ok (.tup (rgI i (j - i).toNat 1)) st1 else .stuck) (CE X.K fa hid Q) := w2
      split at w3
      · rename_i hf
        exact ⟨rgOk_of hi hj hf, Wn.tup S1 rg_reps w3⟩
      · exact w3.elim
    · cases h) (fun _ _ => rfl) (fun _ _ _ => rfl) (fun _ _ => rfl)
theorem Snd.ofI {E : E} (he : ∀ sc e, chkE T N E sc e = false) (ha : ∀ sc es, chkA T N E sc es = false) (h : ∀ {sc tg e X W}, Good T fa eo k N sc X → Takes X W → chkI T N E sc tg e = true → PI X tg e (rdI (callF T.tbl k) eo X.K fa W E))
    (hr : ∀ {sc e X W}, Good T fa eo k N sc X → Takes X W → chkR T N E sc e = true → L2.PRg X e (rdR (callF T.tbl k) eo X.K fa W E)) : Snd T fa eo k N E where
  e := fun {sc e X W} _ _ q => by rw [he] at q; cases q
  a := fun {sc es X W} _ _ q => by rw [ha] at q; cases q
  i := h
  r := hr
theorem snd_sq {a : E} (ia : Snd T fa eo k N a) : Snd T fa eo k N (.sq a) := Snd.ofI (fun _ _ => rfl) (fun _ _ => rfl) (fun {sc tg e X W} G tk h => sq_pi (ia.e G tk h).1) (fun {sc e X W} _ _ q => Bool.noConfusion (show false = true from q))
theorem PRg.weak {X : Cx} {e : Expr} {t t' : L2.St → Hp → (Int → Int → Hp → Prop) → Prop} (h : PRg X e t) (i : ∀ σ H Q, t' σ H Q → t σ H Q) : PRg X e t' := fun pins s σ H Q I q => h pins s σ H Q I (i _ _ _ q)
theorem snd_rg1 {a : E} (ia : Snd T fa eo k N a) : Snd T fa eo k N (.rg1 a) := Snd.ofI (fun _ _ => rfl) (fun _ _ => rfl) (fun {sc tg e X W} G tk h => by
    unfold chkI at h
    split at h
    · simp only [Bool.and_eq_true] at h
      exact rg1_pi G h.1.1 (ia.e G tk h.2).1 h.1.2
    · cases h) (fun {sc e X W} G tk h => by
    unfold chkR at h
    split at h
    · simp only [Bool.and_eq_true] at h
      obtain ⟨⟨h1, h2⟩, h3⟩ := h
      obtain ⟨rfl, hg, hm⟩ := isBl_of h1
      refine PRg.weak (prg_1 (G.gl hg) (G.glb.bl _ hm) (ia.e G tk h3).1 (star_cons h2)) fun σ H R q => ?_
      obtain ⟨ρ, st, φ, hid, hE, hS, w⟩ := q
      have w' : Wn eo X.K fa W σ φ hid H ((evE (callF T.tbl k) a ρ >>= fun x => smallI x >>= fun j => (fun st => .ok (.items (rgI 0 j.toNat 1)) st : M Src)) st) _ := w
      refine rdE_bind hE hS w' fun d st1 φ1 H1 v hE1 hS1 r1 x1 w1 => ?_
      obtain ⟨i, rfl, rfl, hi, w2⟩ := wn_small r1 w1
      exact ⟨i, rfl, w2.now hS1 0 i (by rw [Int.sub_zero]) rfl hi⟩
    · cases h)
theorem snd_rg2 {a b : E} (ia : Snd T fa eo k N a) (ib : Snd T fa eo k N b) : Snd T fa eo k N (.rg2 a b) := Snd.ofI (fun _ _ => rfl) (fun _ _ => rfl) (fun {sc tg e X W} G tk h => by
    unfold chkI at h
    split at h
    · simp only [Bool.and_eq_true] at h
      exact rg2_pi G h.1.1.1.1 (ia.e G tk h.1.2).1 (ib.e G tk h.2).1 h.1.1.1.2 h.1.1.2
    · cases h) (fun {sc e X W} G tk h => by
    unfold chkR at h
    split at h
    · simp only [Bool.and_eq_true] at h
      obtain ⟨⟨⟨⟨h1, h2⟩, h3⟩, h4⟩, h5⟩ := h
      obtain ⟨rfl, hg, hm⟩ := isBl_of h1
      refine PRg.weak (prg_2 (G.gl hg) (G.glb.bl _ hm) (ia.e G tk h4).1 (ib.e G tk h5).1 (star_cons h2) (star_cons h3) (star_plain (by simp [h3]))) fun σ H R q => ?_
      obtain ⟨ρ, st, φ, hid, hE, hS, w⟩ := q
      have w' : Wn eo X.K fa W σ φ hid H ((evE (callF T.tbl k) a ρ >>= fun x => evE (callF T.tbl k) b ρ >>= fun y => smallI x >>= fun i => smallI y >>= fun j => (fun st => .ok (.items (rgI i (j - i).toNat 1)) st : M Src)) st) _ := w
      refine rdE_bind hE hS w' fun d st1 φ1 H1 v hE1 hS1 r1 x1 w1 => rdE_bind hE1 hS1 w1 fun d2 st2 φ2 H2 v2 hE2 hS2 r2 x2 w2 => ?_
      obtain ⟨i, rfl, rfl, hi, w3⟩ := wn_small (r1.ext x2) w2
      obtain ⟨j, rfl, rfl, hj, w4⟩ := wn_small r2 w3
      exact ⟨i, j, rfl, rfl, w4.now hS2 i j rfl hi hj⟩
    · cases h)
theorem snd_rg3 {a b c : E} (ia : Snd T fa eo k N a) (ib : Snd T fa eo k N b) (ic : Snd T fa eo k N c) : Snd T fa eo k N (.rg3 a b c) := Snd.ofI (fun _ _ => rfl) (fun _ _ => rfl) (fun {sc tg e X W} G tk h => by
    unfold chkI at h
    split at h
    · simp only [Bool.and_eq_true] at h
      exact rg3_pi G h.1.1.1.1.1.1 (ia.e G tk h.1.1.2).1 (ib.e G tk h.1.2).1 (ic.e G tk h.2).1 h.1.1.1.1.1.2 h.1.1.1.1.2 h.1.1.1.2
    · cases h) (fun {sc e X W} _ _ q => Bool.noConfusion (show false = true from q))
theorem snd_zip {a b : E} (ia : Snd T fa eo k N a) (ib : Snd T fa eo k N b) : Snd T fa eo k N (.zip a b) := Snd.ofI (fun _ _ => rfl) (fun _ _ => rfl) (fun {sc tg e X W} G tk h => by
    unfold chkI at h
    split at h
    · simp only [Bool.and_eq_true] at h
      obtain ⟨⟨⟨⟨⟨h1, h2⟩, h3⟩, h4⟩, h5⟩, h6⟩ := h
      cases tg with
      | Tuple es kk p => exact zip_pi G h1 (ia.e G tk h5).1 (ib.e G tk h6).1 h3 h4
      | _ => cases h2
    · cases h) (fun {sc e X W} _ _ q => Bool.noConfusion (show false = true from q))
theorem snd_enum {a : E} (ia : Snd T fa eo k N a) : Snd T fa eo k N (.enum a) := Snd.ofI (fun _ _ => rfl) (fun _ _ => rfl) (fun {sc tg e X W} G tk h => by
    unfold chkI at h
    split at h
    · simp only [Bool.and_eq_true] at h
      obtain ⟨⟨⟨h1, h2⟩, h3⟩, h4⟩ := h
      cases tg with
      | Tuple es kk p => exact enum_pi G h1 (ia.e G tk h4).1 h3
      | _ => cases h2
    · cases h) (fun {sc e X W} _ _ q => Bool.noConfusion (show false = true from q))
/-- EVERY TERM -/
theorem snd : ∀ E : E, Snd T fa eo k N E := by
  intro E
  induction E with
  | var i => exact snd_var i
  | cst d => exact snd_cst d
  | glo d => exact snd_glo d
  | fnv i => exact snd_fnv i
  | nil => exact snd_nil
  | cons a b ia ib => exact snd_cons ia ib
  | tup es ih => exact snd_tup ih
  | lst c es ih => exact snd_lst ih
  | bi b es ih => exact snd_bi ih
  | sl c l h a lo hi ia il ih => exact snd_sl ia il ih
  | mth b o es io ih => exact snd_mth io ih
  | and_ a b ia ib => exact snd_and ia ib
  | or_ a b ia ib => exact snd_or ia ib
  | not_ a ia => exact snd_not ia
  | ite c a b ic ia ib => exact snd_ite ic ia ib
  | chain o p a b c ia ib ic => exact snd_chain ia ib ic
  | call f es ih => exact snd_call ih
  | callv f es _ ih => exact snd_callv ih
  | comp cell elt tg one it cond ie ii ic => exact snd_comp ie ii ic
  | comp2 elt i j it1 it2 cond => exact Snd.ofE (fun _ _ q => Bool.noConfusion (show false = true from q)) (fun _ _ => rfl) (fun _ _ _ => rfl) (fun _ _ => rfl)
  | lsI c it ii => exact snd_lsI ii
  | tpI it ii => exact snd_tpI ii
  | sq e ie => exact snd_sq ie
  | rg1 a ia => exact snd_rg1 ia
  | rg2 a b ia ib => exact snd_rg2 ia ib
  | rg3 a b c ia ib ic => exact snd_rg3 ia ib ic
  | zip a b ia ib => exact snd_zip ia ib
  | enum a ia => exact snd_enum ia
end
end PC
set_option Elab.async false
set_option linter.all false
set_option maxRecDepth 100000
set_option maxHeartbeats 4000000
namespace PC
open PySem PySem.Spec L2
section
variable {X : Cx} {body suite : List Stmt} {b₀ : Stmt} {hds : List ExceptHandler} {x : Str} {c : Value} {np pos pos' : Pos} {tb : WX → TS} {ts : TS}
/-- what the first clause takes -/
def wFirst (K : PySem.W.Frag) (c : Value) (ts : TS) (D : Ends) : WX := fun cls _ σ H => PySem.W.exmOne K cls c = some true ∧ ts D σ H
theorem ps_try_first (hs : X.stack = X.env :: X.outer) (hf : X.env.frame = some X.env.locals) (hc : Names X x c)
    (hb : ∀ (W : WX) (pn : List (Addr × Obj)) (xe : Value → Shared → Prop), Takes (X.tr pn xe) W → PassesOwn (model X.prog X.w) X.A X.env xe → PSs (X.tr pn xe) body (tb W))
    (hsu : ∀ (a : Addr) (oe : Obj) (pn : List (Addr × Obj)), PSs (X.suite a ((a, oe) :: pn)) (b₀ :: suite) ts) :
    PS X (.Try body (.ExceptHandler (some (.Name x np)) none (b₀ :: suite) pos' :: hds) [] [] pos) (fun D σ H => tb (wFirst X.K c ts D) D σ H) := by
  refine ⟨fun pins s σ H D I want => wpAny_Try_except ?_⟩
  have okX := I.ok
  have frX : X.A.frames = some (X.env :: X.outer) := okX.frames.trans (by rw [hs])
  let land : Value → Shared → Prop := fun e s₁ => wpAny (model X.prog X.w) X.A (noteFrame e X.env) (fun _ s₂ => wpAny (model X.prog X.w) X.A (setFlight e none) (fun _ s₃ =>
    wpAny (model X.prog X.w) X.A (handleBy e X.env (.ExceptHandler (some (.Name x np)) none (b₀ :: suite) pos' :: hds)) (SP X pins D) X.xe s₃) X.xe s₂) X.xe s₁
  have took : Takes (X.tr (X.pn ++ pins) land) (wFirst X.K c ts D) := by
    rintro u t ⟨a, B, sI, pins2, σ2, H2, cls, d, rfl, J2, nb, up, sky, na, os, ag, hm, hts⟩
    have J : Inv X pins σ2 H2 sI := J2.ofTry okX
    have sky2 : Sky B (X.env :: X.outer) a (Zc cls d) X.env.locals t.heap := hs ▸ sky
    refine Sky.land Zc.steady frX hf sky2 fun g fl gup => ?_
    have J3 : Inv X pins σ2 H2 { t with heap := g } := J.landed nb fl.1 (up.trans gup) os ag
    obtain ⟨o3, f3, e3, z3, d3⟩ := fl.there
    have off : a ∉ frs (X.env :: X.outer) := fun hin => by
      obtain ⟨_, o4, e4, no⟩ := fl.2.2.1.mem hin
      exact no _ (by rw [e3] at e4; cases e4; exact d3)
    have offL : a ≠ X.env.locals := fun e => off (List.mem_filterMap.mpr ⟨_, List.mem_cons_self, hf.trans (by rw [e])⟩)
    have offF : a ∉ X.fs := fun hin => (List.mem_filterMap.mp hin).elim fun v hv => off (List.mem_filterMap.mpr ⟨v, List.mem_cons_of_mem _ hv.1, hv.2⟩)
    have S3 := J3.suite e3 d3 na offL offF
    refine wpAny_handleBy_cons (codeAny_handlers_test ?_) (fun q => nomatch q)
    have ty : PySem.W.Looks (model X.prog X.w) g (typeOf (.ref a)) cls := fun A Q E s k q => wpAny_typeOf_ref (k _ _ e3) (z3.1.symm ▸ q)
    have meets := PySem.W.exm_one (M := model X.prog X.w) J3.kIn ty hm
    have seen : ∀ {Q E : Value → Shared → Prop}, Q c { t with heap := g } → wpAny (model X.prog X.w) (X.A.mark (some (.ref a))) (eval (.Name x np) X.env) Q E { t with heap := g } := fun {Q E} q => by
      rcases hc with ⟨hg, hdbg, hmg | ⟨hmg, hbt, hnm⟩⟩
      · exact ld_glob (X := X.suite a ((a, o3) :: (X.pn ++ pins))) S3 hg hmg q hdbg
      · exact ld_blt (X := X.suite a ((a, o3) :: (X.pn ++ pins))) S3 hg hmg hbt q hnm hdbg
    refine seen (meets.here (codeAny_handlers_suite ?_))
    refine HandSPX.lands_againZ fl fun g4 fl4 gup4 => ?_
    have J4 : Inv X pins σ2 H2 { t with heap := g4 } := J.landed nb fl4.1 ((up.trans gup).trans gup4) os ag
    obtain ⟨o4, f4, e4, z4, d4⟩ := fl4.there
    refine wpAny_mono ((hsu a o4 (X.pn ++ pins)).run [] _ _ H2 D (J4.suite e4 d4 na offL offF) hts) (fun f s6 done => ?_) (fun _ _ z => False.elim z)
    cases f with
    | next => exact done.elim fun σ6 r => r.elim fun H6 r => ⟨σ6, H6, r.1.unsuite okX, r.2⟩
    | brk => exact done.elim fun σ6 r => r.elim fun H6 r => ⟨σ6, H6, r.1.unsuite okX, r.2⟩
    | cont => exact done.elim fun σ6 r => r.elim fun H6 r => ⟨σ6, H6, r.1.unsuite okX, r.2⟩
    | ret u => exact done.elim fun v r => r.elim fun σ6 r => r.elim fun H6 r => ⟨v, σ6, H6, r.1.unsuite okX, r.2⟩
  refine wpAny_mono ((hb (wFirst X.K c ts D) (X.pn ++ pins) land took PassesOwn.looking).run [] s σ H D (I.toTry _) want) (fun f s1 done => ?_) (fun _ _ z => z)
  cases f with
  | next => exact done.elim fun σ6 r => r.elim fun H6 r => wpAny_execs_nil ⟨σ6, H6, r.1.ofTry okX, r.2⟩
  | brk => exact done.elim fun σ6 r => r.elim fun H6 r => ⟨σ6, H6, r.1.ofTry okX, r.2⟩
  | cont => exact done.elim fun σ6 r => r.elim fun H6 r => ⟨σ6, H6, r.1.ofTry okX, r.2⟩
  | ret u => exact done.elim fun v r => r.elim fun σ6 r => r.elim fun H6 r => ⟨v, σ6, H6, r.1.ofTry okX, r.2⟩
end
end PC
set_option Elab.async false
set_option linter.all false
set_option maxRecDepth 100000
set_option maxHeartbeats 4000000
namespace PC
open PySem PySem.Spec L2
/-- whatever the slots -/
def Wall (W : WX) (n : Nat) : WX := fun cls dd _ H => ∀ σ : L2.St, σ.length = n → W cls dd σ H
def FlC (K : PySem.W.Frag) (fa : Nat → Addr) (hid : List Addr) (n : Nat) (D : Ends) : Fl → Store → List Addr → Hp → Prop
  | .nx ρ, _, φ, H => ∀ σ : L2.St, σ.length = n → EnvOk K fa ρ σ φ hid H → D.nx σ H
  | .bk ρ, _, φ, H => ∀ σ : L2.St, σ.length = n → EnvOk K fa ρ σ φ hid H → D.bk σ H
  | .ct ρ, _, φ, H => ∀ σ : L2.St, σ.length = n → EnvOk K fa ρ σ φ hid H → D.ct σ H
  | .rt d, _, φ, H => ∀ v, Rep K fa φ hid H d v → D.rt v H
section
variable (cf : Nat → List D → M D) (eo : Nat → Option (Value × Option Str)) (K : PySem.W.Frag) (fa : Nat → Addr) (W : WX)
def rdS (s : S) : TS := fun D σ H => ∃ ρ st φ hid, EnvOk K fa ρ σ φ hid H ∧ StoreOk K fa st φ hid H ∧ Wn eo K fa (Wall W σ.length) σ φ hid H (evS cf s ρ st) (FlC K fa hid σ.length D)
def rdG (t : T) : TG := fun v σ H Q => ∃ ρ st φ hid d, EnvOk K fa ρ σ φ hid H ∧ StoreOk K fa st φ hid H ∧ Rep K fa φ hid H d v ∧ Wn eo K fa (Wall W σ.length) σ φ hid H (asT cf t d ρ st) (fun ρ' _ φ' H' => ∀ σ' : L2.St, σ'.length = σ.length → EnvOk K fa ρ' σ' φ' hid H' → Q σ' H')
def rdGs (t : T) : TGs := fun vs σ H Q => ∃ ρ st φ hid ds, EnvOk K fa ρ σ φ hid H ∧ StoreOk K fa st φ hid H ∧ Reps K fa φ hid H ds vs ∧ Wn eo K fa (Wall W σ.length) σ φ hid H (asTs cf t ds ρ st) (fun ρ' _ φ' H' => ∀ σ' : L2.St, σ'.length = σ.length → EnvOk K fa ρ' σ' φ' hid H' → Q σ' H')
end
section
variable {cf : Nat → List D → M D} {T : Tab} {sc : Scope} {k : Nat} {N : List Str} {X : Cx} {fa : Nat → Addr} {eo : Nat → Option (Value × Option Str)} {W : WX} {K : PySem.W.Frag} {σ : L2.St} {H : Hp} {φ hid : List Addr} {st : Store} {ρ : Rho}
theorem Wn.all {α : Type} {r : Res α} {C : α → Store → List Addr → Hp → Prop} (w : Wn eo K fa (Wall W σ.length) σ φ hid H r C) : Wn eo K fa W σ φ hid H r C := by
  cases r with
  | ok a st => exact w
  | exc e st => exact fun cls dd H' φ' ex S x => w cls dd H' φ' ex S x σ rfl
  | stuck => exact w
theorem Wn.slots {α : Type} {r : Res α} {n : Nat} {σ' : L2.St} {C : α → Store → List Addr → Hp → Prop} (w : Wn eo K fa (Wall W n) σ φ hid H r C) : Wn eo K fa (Wall W n) σ' φ hid H r C := by
  cases r with
  | ok a st => exact w
  | exc e st => exact w
  | stuck => exact w
theorem rdE_all {e : E} {Q : VK} (q : rdE cf eo K fa (Wall W σ.length) e σ H Q) : rdE cf eo K fa W e σ H Q := by
  obtain ⟨ρ, st, φ, hid, hE, hS, w⟩ := q
  exact ⟨ρ, st, φ, hid, hE, hS, w.all⟩
theorem rdT_all {e : E} {Q : Bool → Hp → Prop} (q : rdT cf eo K fa (Wall W σ.length) e σ H Q) : rdT cf eo K fa W e σ H Q := by
  obtain ⟨ρ, st, φ, hid, hE, hS, w⟩ := q
  exact ⟨ρ, st, φ, hid, hE, hS, w.all⟩
theorem rdA_all {e : E} {Q : List V → Hp → Prop} (q : rdA cf eo K fa (Wall W σ.length) e σ H Q) : rdA cf eo K fa W e σ H Q := by
  obtain ⟨ρ, st, φ, hid, hE, hS, w⟩ := q
  exact ⟨ρ, st, φ, hid, hE, hS, w.all⟩
theorem rdI_all {e : E} {Q : It → Hp → Prop} (q : rdI cf eo K fa (Wall W σ.length) e σ H Q) : rdI cf eo K fa W e σ H Q := by
  obtain ⟨ρ, st, φ, hid, hE, hS, w⟩ := q
  exact ⟨ρ, st, φ, hid, hE, hS, w.all⟩
/-- a value, and what comes of it, whatever the slots -/
theorem rdE_bindW {α : Type} {e : E} {f : D → M α} {C : α → Store → List Addr → Hp → Prop} {kk : V → Hp → Prop} (hE : EnvOk K fa ρ σ φ hid H) (hS : StoreOk K fa st φ hid H)
    (w : Wn eo K fa (Wall W σ.length) σ φ hid H ((evE cf e ρ >>= f) st) C)
    (h : ∀ d st1 φ1 H1 v, EnvOk K fa ρ σ φ1 hid H1 → StoreOk K fa st1 φ1 hid H1 → Rep K fa φ1 hid H1 d v → Ext φ H φ1 H1 → Wn eo K fa (Wall W σ.length) σ φ1 hid H1 (f d st1) C → kk v H1) : rdE cf eo K fa W e σ H kk := rdE_all (rdE_bind hE hS w h)
structure GoodS (T : Tab) (fa : Nat → Addr) (eo : Nat → Option (Value × Option Str)) (k : Nat) (N : List Str) (sc : Scope) (X : Cx) : Prop extends Good T fa eo k N sc X where
  po : PassesOwn (model X.prog X.w) X.A X.env X.xe
  cw : ∀ x, X.fn x = true
  stk : X.stack = X.env :: X.outer
  fr : X.env.frame = some X.env.locals
  kd : X.env.scope.kind = ScopeKind.function
def isLoc (sc : Scope) (x : Str) : Bool := decide (sc.names.lookup x = some .local) || decide (sc.names.lookup x = some .cell)
theorem GoodS.loc (G : GoodS T fa eo k N sc X) {x : Str} (h : isLoc sc x = true) : Loc X.env.scope x := by
  rw [G.sc]
  unfold isLoc at h
  rw [Bool.or_eq_true] at h
  exact h.imp (fun h => of_decide_eq_true h) (fun h => of_decide_eq_true h)
mutual
def chkT (T : Tab) (N : List Str) : PC.T → Scope → Expr → Bool
  | .nm i, sc, e => match e with
    | .Name x _ => decide (N[i]? = some x) && isLoc sc x
    | _ => false
  | .sub o i, sc, e => match e with
    | .Subscript o' i' _ => notSlice i' && chkE T N o sc o' && chkE T N i sc i'
    | _ => false
  | .tup ts, sc, e => match e with
    | .Tuple es _ _ => chkTs T N ts sc es
    | _ => false
  | _, _, _ => false
def chkTs (T : Tab) (N : List Str) : PC.T → Scope → List Expr → Bool
  | .nil, _, es => es.isEmpty
  | .cons a b, sc, es => match es with
    | x :: r => notStar x && chkT T N a sc x && chkTs T N b sc r
    | [] => false
  | _, _, _ => false
end
theorem assignEach_cons {e : Expr} {es : List Expr} {env : Env} (h : notStar e = true) : assignEach (e :: es) env = (false, assign e env) :: assignEach es env := by
  cases e <;> first | rfl | cases h
theorem assign_sub {o i : Expr} {p : Pos} {env : Env} (h : notSlice i = true) : ∀ v, assign (.Subscript o i p) env v = (do
      let ov ← holding [v] (eval o env)
      let iv ← holding [v, ov] (eval i env)
      standAt p
      holding [v, ov, iv] (setItem ov iv v)
      release [v, ov, iv] []) := by
  intro v
  cases i <;> first | rfl | cases h
structure SndT (T : Tab) (fa : Nat → Addr) (eo : Nat → Option (Value × Option Str)) (k : Nat) (N : List Str) (t : PC.T) : Prop where
  one : ∀ {sc e X W}, GoodS T fa eo k N sc X → Takes X W → chkT T N t sc e = true → PG X e (rdG (callF T.tbl k) eo X.K fa W t)
  all : ∀ {sc es X W}, GoodS T fa eo k N sc X → Takes X W → chkTs T N t sc es = true → PGs X es (rdGs (callF T.tbl k) eo X.K fa W t) ∧ (assignEach es X.env).length = lenT t ∧ (assignEach es X.env).findIdx? (·.1) = none
theorem PG.weak {X : Cx} {e : Expr} {t t' : TG} (h : PG X e t) (i : ∀ v σ H Q, t' v σ H Q → t v σ H Q) : PG X e t' := ⟨fun pins s σ H v u Q I r q => h.run pins s σ H v u Q I r (i _ _ _ _ q)⟩
theorem PGs.weak {X : Cx} {e : List Expr} {t t' : TGs} (h : PGs X e t) (i : ∀ v σ H Q, t' v σ H Q → t v σ H Q) : PGs X e t' := ⟨fun pins s σ H v u Q I r q => h.run pins s σ H v u Q I r (i _ _ _ _ q)⟩
theorem sndT : ∀ t : PC.T, SndT T fa eo k N t := by
  intro t
  induction t with
  | nm i =>
    refine ⟨fun {sc e X W} G tk h => ?_, fun {sc es X W} G tk h => Bool.noConfusion (show false = true from h)⟩
    unfold chkT at h
    split at h
    · rw [Bool.and_eq_true] at h
      refine PG.weak (pg_name (by rw [G.hN]; exact G.nd) (by rw [G.hN]; exact of_decide_eq_true h.1) (G.loc h.2) (.inl (G.cw _))) fun v σ H Q q => ?_
      obtain ⟨ρ, st, φ, hid, d, hE, hS, r, w⟩ := q
      exact (show Wn eo X.K fa (Wall W σ.length) σ φ hid H (.ok (ρ.set i (some d)) st) _ from w).now hS _ (List.length_set ..) (hE.set r)
    · cases h
  | sub o i =>
    refine ⟨fun {sc e X W} G tk h => ?_, fun {sc es X W} G tk h => Bool.noConfusion (show false = true from h)⟩
    unfold chkT at h
    split at h
    · rw [Bool.and_eq_true, Bool.and_eq_true] at h
      refine PG.weak (pg_sub ((snd o).e G.toGood tk h.1.2).1 ((snd i).e G.toGood tk h.2).1 set_list (assign_sub h.1.1)) fun v σ H Q q => ?_
      obtain ⟨ρ, st, φ, hid, d, hE, hS, r, w⟩ := q
      have w' : Wn eo X.K fa (Wall W σ.length) σ φ hid H ((evE (callF T.tbl k) o ρ >>= fun x => evE (callF T.tbl k) i ρ >>= fun y => setItemV x y d >>= fun _ => (fun st => .ok ρ st : M Rho)) st) (fun ρ' _ φ' H' => ∀ σ' : L2.St, σ'.length = σ.length → EnvOk X.K fa ρ' σ' φ' hid H' → Q σ' H') := w
      refine rdE_bindW hE hS w' fun d1 st1 φ1 H1 v1 hE1 hS1 r1 x1 w1 => rdE_bindW hE1 hS1 w1 fun d2 st2 φ2 H2 v2 hE2 hS2 r2 x2 w2 => ?_
      replace r1 := r1.ext x2
      replace r := (r.ext x1).ext x2
      have w3 := w2.bind
      cases r1 with
      | @ref n a hn =>
        cases r2 with
        | int kk =>
          have w4 : Wn eo X.K fa (Wall W σ.length) σ φ2 hid H2 (match st2[n]? with
            | some (.lst xs) => match L2.ixN xs.length kk with
              | some j => .ok () (st2.set n (.lst (xs.set j d)))
              | none => .stuck
            | none => .stuck) (fun a st1 φ1 H1 => Wn eo X.K fa (Wall W σ.length) σ φ1 hid H1 (.ok ρ st1) (fun ρ' _ φ' H' => ∀ σ' : L2.St, σ'.length = σ.length → EnvOk X.K fa ρ' σ' φ' hid H' → Q σ' H')) := w3
          cases hc : st2[n]? with
          | none => rw [hc] at w4; exact w4.elim
          | some c =>
            cases c with
            | lst ys =>
              rw [hc] at w4
              dsimp only at w4
              obtain ⟨b, vs, h1, h2, h3⟩ := hS2.cell n ys hc
              rw [hn] at h1; cases h1
              cases hj : L2.ixN ys.length kk with
              | none => rw [hj] at w4; exact w4.elim
              | some j =>
                rw [hj] at w4
                refine ⟨a, vs, kk, j, rfl, rfl, h2, by rw [h3.length]; exact hj, ?_⟩
                have S4 := hS2.write hn (h3.set j r)
                exact (w4 _ _ (.write hn) S4).now S4 σ rfl (hE2.ext (.write hn))
        | _ => exact (show False from w3).elim
      | _ => cases r2 <;> exact (show False from w3).elim
    · cases h
  | tup ts ih =>
    refine ⟨fun {sc e X W} G tk h => ?_, fun {sc es X W} G tk h => Bool.noConfusion (show false = true from h)⟩
    unfold chkT at h
    split at h
    · rename_i es j p
      obtain ⟨q1, q2, q3⟩ := ih.all G tk h
      refine PG.weak (pg_tup G.calm q1 q2 q3) fun v σ H Q q => ?_
      obtain ⟨ρ, st, φ, hid, d, hE, hS, r, w⟩ := q
      have w' : Wn eo X.K fa (Wall W σ.length) σ φ hid H ((itemsM (lenT ts) d >>= fun xs => asTs (callF T.tbl k) ts xs ρ) st) (fun ρ' _ φ' H' => ∀ σ' : L2.St, σ'.length = σ.length → EnvOk X.K fa ρ' σ' φ' hid H' → Q σ' H') := w
      cases r with
      | @tup xs vs a t rs =>
        by_cases hl : xs.length = lenT ts
        · have e1 : itemsM (lenT ts) (.tup xs) st = .ok xs st := if_pos hl
          rw [M.bind_eq, e1] at w'
          exact ⟨a, vs, rfl, t.sq, by rw [rs.length]; exact hl, ρ, st, φ, hid, xs, hE, hS, rs, w'⟩
        · have e1 : itemsM (lenT ts) (.tup xs) st = .stuck := if_neg hl
          rw [M.bind_eq, e1] at w'
          exact (show False from w').elim
      | _ => exact (show False from w').elim
    · cases h
  | nil =>
    refine ⟨fun {sc e X W} G tk h => Bool.noConfusion (show false = true from h), fun {sc es X W} G tk h => ?_⟩
    cases es with
    | nil =>
      refine ⟨PGs.weak pgs_nil fun vs σ H Q q => ?_, rfl, rfl⟩
      obtain ⟨ρ, st, φ, hid, ds, hE, hS, r, w⟩ := q
      cases r with
      | nil => exact ⟨rfl, (show Wn eo X.K fa (Wall W σ.length) σ φ hid H (.ok ρ st) _ from w).now hS σ rfl hE⟩
      | cons _ _ => exact (show False from w).elim
    | cons _ _ => exact Bool.noConfusion (show false = true from h)
  | cons a b ia ib =>
    refine ⟨fun {sc e X W} G tk h => Bool.noConfusion (show false = true from h), fun {sc es X W} G tk h => ?_⟩
    unfold chkTs at h
    split at h
    · rename_i x r
      rw [Bool.and_eq_true, Bool.and_eq_true] at h
      obtain ⟨q1, q2, q3⟩ := ib.all G tk h.2
      refine ⟨PGs.weak (pgs_cons (ia.one G tk h.1.2) q1 (by rw [assignEach_cons h.1.1]; rfl)) fun vs σ H Q q => ?_, ?_, ?_⟩
      · obtain ⟨ρ, st, φ, hid, ds, hE, hS, rr, w⟩ := q
        cases rr with
        | nil => exact (show False from w).elim
        | @cons d v ds vs r rs =>
          have w' : Wn eo X.K fa (Wall W σ.length) σ φ hid H ((asT (callF T.tbl k) a d ρ >>= fun ρ' => asTs (callF T.tbl k) b ds ρ') st) (fun ρ' _ φ' H' => ∀ σ' : L2.St, σ'.length = σ.length → EnvOk X.K fa ρ' σ' φ' hid H' → Q σ' H') := w
          refine ⟨v, vs, rfl, ρ, st, φ, hid, d, hE, hS, r, w'.step fun ρ' st1 φ1 H1 x1 S1 w1 σ' hl hE' => ⟨ρ', st1, φ1, hid, ds, hE', S1, rs.ext x1, ?_⟩⟩
          rw [hl]
          exact Wn.slots w1
      · rw [assignEach_cons h.1.1, List.length_cons, q2]; rfl
      · rw [assignEach_cons h.1.1, List.findIdx?_cons, q3]; rfl
    · cases h
end
end PC
set_option Elab.async false
set_option linter.all false
set_option maxRecDepth 100000
set_option maxHeartbeats 4000000
namespace PC
open PySem PySem.Spec L2
/-- a plain local name, on that line -/
def isPl (sc : Scope) (line : Nat) : Expr → Bool
  | .Name x p => decide (sc.names.lookup x = some .local) && p.line == line
  | _ => false
def noSwap (sc : Scope) : Expr → Expr → Bool
  | .Tuple ts _ _, .Tuple vs _ _ => !(ts.length == 2 || ts.length == 3) || vs.length != ts.length || ts.any (fun t => !isPl sc ((ts.head?.map (·.pos.line)).getD 0) t) || vs.all (foldedForSure 8)
  | .Tuple _ _ _, _ => true
  | .Subscript _ _ _, _ => true
  | _, _ => false
theorem filterMap_len {α β : Type} {f : α → Option β} : ∀ {l : List α}, (l.filterMap f).length = l.length → ∀ a ∈ l, (f a).isSome = true
  | [], _, a, h => by cases h
  | x :: l, hl, a, h => by
    rw [List.filterMap_cons] at hl
    cases hx : f x with
    | none =>
      rw [hx] at hl
      have := List.length_filterMap_le f l
      rw [List.length_cons] at hl
      dsimp only at hl
      omega
    | some b =>
      rw [hx] at hl
      rw [List.length_cons, List.length_cons] at hl
      rcases List.mem_cons.mp h with q | q
      · rw [q, hx]; rfl
      · exact filterMap_len (by omega) a q
theorem swap_none {sc : Scope} {t v : Expr} {env : Env} (hs : env.scope = sc) (h : noSwap sc t v = true) : swappedStores [t] v env = pure none := by
  unfold noSwap at h
  split at h
  · rename_i ts j1 p1 vs j2 p2
    unfold swappedStores
    dsimp only
    split
    · rfl
    · rename_i h1
      split
      · rfl
      · split
        · rfl
        · rename_i h3
          split
          · rfl
          · rename_i h4
            exfalso
            rw [Bool.or_eq_true, Bool.or_eq_true, Bool.or_eq_true] at h
            rw [Bool.not_eq_true, Bool.or_eq_false_iff, Bool.or_eq_false_iff] at h1
            rw [Bool.not_eq_true, Bool.or_eq_false_iff] at h3
            rcases h with ((h | h) | h) | h
            · rw [h1.1.1] at h; cases h
            · rw [h1.1.2] at h; cases h
            · rw [List.any_eq_true] at h
              obtain ⟨t, ht, hp⟩ := h
              have := filterMap_len (by simpa using h3.1) t ht
              unfold isPl at hp
              split at hp
              · rename_i x p
                dsimp only at this
                split at this
                · rename_i hc
                  have hc' : env.kindOf x = some .local ∧ p.line = (ts.head?.map (·.pos.line)).getD 0 := by simpa using hc
                  have e1 : env.scope.names.lookup x = some .local := hc'.1
                  rw [hs] at e1
                  rw [e1, hc'.2] at hp
                  simp at hp
                · cases this
              · rename_i hn
                cases t <;> first | cases this | exact hn _ _ rfl
            · exact h4 h
  · unfold swappedStores
    rename_i hn
    cases v <;> first | rfl | exact absurd rfl (hn _ _ _)
  · rfl
  · cases h
theorem swap_two {env : Env} {x y : Str} {px py pt pt2 : Pos} {kt k2 : Nat} {a b : Expr} (hk : env.blockKind = .function) (hx : env.kindOf x = some .local) (hy : env.kindOf y = some .local) (hl : (py.line == px.line) = true) (hne : x ≠ y) (ha : notStar a = true) (hb : notStar b = true) (hf : [a, b].all (foldedForSure 8) = false) (hc : [a, b].all (constantsAlone 8) = false) :
    swappedStores [.Tuple [.Name x px, .Name y py] kt pt] (.Tuple [a, b] k2 pt2) env = pure (some [x, y]) := by
  unfold swappedStores
  dsimp only
  have e2 : (x == y) = false := by simpa using hne
  have e3 : (y == x) = false := by simpa using fun e => hne e.symm
  have hl' : py.line = px.line := by simpa using hl
  have hne' : ¬ y = x := fun e => hne e.symm
  split
  · rename_i h1
    rw [hk] at h1
    simp at h1
  · split
    · rename_i h2
      exfalso
      cases a <;> cases b <;> first | exact Bool.noConfusion (show false = true from h2) | exact Bool.noConfusion (show false = true from ha) | exact Bool.noConfusion (show false = true from hb)
    · split
      · rename_i h3
        exfalso
        simp [hx, hy, hl', List.filterMap_cons, List.eraseDups_cons, e2, e3, hne', Expr.pos] at h3
      · split
        · rename_i h4; rw [hf] at h4; cases h4
        · split
          · rename_i h5; rw [hc] at h5; cases h5
          · simp [hx, hy, hl', List.filterMap_cons, Expr.pos]
end PC
set_option Elab.async false
set_option linter.all false
set_option maxRecDepth 100000
set_option maxHeartbeats 4000000
namespace PC
open PySem PySem.Spec L2
def isComp : Expr → Bool
  | .ListComp _ _ _ _ => true
  | .SetComp _ _ _ _ => true
  | .DictComp _ _ _ _ _ => true
  | _ => false
/-- name = [..] on one line, the name a local that the block has not -/
def swapsC (sc : Scope) (x : Str) (py : Pos) : Expr → Bool
  | .ListComp _ _ scope pos => decide (sc.names.lookup x = some .local) && (py.line == pos.line) && !(scope.names.any fun (n, k) => n == x && (k == .local || k == .cell))
  | _ => false
def opAug : Bi → Option Operator
  | .add _ => some .Add
  | .sub => some .Sub
  | .mul _ => some .Mult
  | _ => none
/-- a written constant -/
def cstD : D → Expr → Bool
  | .tup [.str a, .str b], .Tuple [.Constant (.str c) _ _, .Constant (.str d) _ _] _ _ => decide (a = c) && decide (b = d)
  | .str a, .Constant (.str c) _ _ => decide (a = c)
  | _, _ => false
mutual
def chkS (T : Tab) (N : List Str) : S → Scope → Stmt → Bool
  | .skip, _, s => match s with
    | .Pass _ => true
    | _ => false
  | .ex e, sc, s => match s with
    | .Expr e' _ => !isComp e' && chkE T N e sc e'
    | _ => false
  | .ret e, sc, s => match s with
    | .Return (some e') _ => chkE T N e sc e'
    | _ => false
  | .retN, _, s => match s with
    | .Return none _ => true
    | _ => false
  | .asg t e, sc, s => match s with
    | .Assign [t'] e' _ => (match t, t', e', e with
      | .nm i, .Name x py, .ListComp elt' gs scope p, e => decide (N[i]? = some x) && isLoc sc x && chkE T N e sc (.ListComp elt' gs scope p)
      | .nm i, .Name x _, e', e => decide (N[i]? = some x) && isLoc sc x && !isComp e' && chkE T N e sc e'
      | .tup (.cons (.nm i) (.cons (.nm j) .nil)), .Tuple [.Name x px, .Name y py] _ _, .Tuple [a, b] k2 pt2, e =>
        if decide (sc.names.lookup x = some .local) && decide (sc.names.lookup y = some .local) && (py.line == px.line) && decide (x ≠ y) && notStar a && notStar b && !([a, b].all (foldedForSure 8)) && !([a, b].all (constantsAlone 8)) then
          decide (N[i]? = some x) && decide (N[j]? = some y) && decide (i ≠ j) && (match e with
            | .tup es => chkA T N es sc [a, b]
            | _ => false)
        else noSwap sc t' e' && chkT T N t sc t' && chkE T N e sc (.Tuple [a, b] k2 pt2)
      | t, t', e', e => notStar t' && noSwap sc t' e' && chkT T N t sc t' && chkE T N e sc e')
    | _ => false
  | .aug i b e, sc, s => match s with
    | .AugAssign (.Name x _) op e' _ => decide (N[i]? = some x) && isLoc sc x && decide (opAug b = some op) && chkE T N e sc e'
    | _ => false
  | .ite c a b, sc, s => match s with
    | .If c' a' b' _ => chkE T N c sc c' && chkSs T N a sc a' && chkSs T N b sc b'
    | _ => false
  | .while_ c b, sc, s => match s with
    | .While c' b' [] _ => chkE T N c sc c' && chkSs T N b sc b'
    | _ => false
  | .for_ t it b, sc, s => match s with
    | .For t' it' b' [] _ => notSet it' && chkT T N t sc t' && chkI T N it sc t' it' && chkSs T N b sc b'
    | _ => false
  | .brk, _, s => match s with
    | .Break _ => true
    | _ => false
  | .cont, _, s => match s with
    | .Continue _ => true
    | _ => false
  | .raise_ c e, sc, s => match s, e with
    | .Raise (some (.Call (.Name x _) [.Constant (.str m) _ _] [] _)) none _, .cst (.str m') => isGl sc x && nmOk x && decide (T.cls x = some c) && decide (m = m')
    | _, _ => false
  | .try_ b c r, sc, s => match s with
    | .Try b' (.ExceptHandler (some (.Name x _)) none [.Return (some r') _] _ :: _) [] [] _ => isGl sc x && nmOk x && decide (T.cls x = some c) && cstD r r' && chkSs T N b sc b'
    | _ => false
  | _, _, _ => false
def chkSs (T : Tab) (N : List Str) : S → Scope → List Stmt → Bool
  | .skip, _, s => s.isEmpty
  | .seq a b, sc, s => match s with
    | x :: r => chkS T N a sc x && chkSs T N b sc r
    | [] => false
  | _, _, _ => false
end
end PC
set_option Elab.async false
set_option linter.all false
set_option maxRecDepth 100000
set_option maxHeartbeats 4000000
namespace PC
open PySem PySem.Spec L2
theorem swaps_no {e : Expr} {t : Option Expr} {l : Nat} {env : Env} (h : isComp e = false) : swapsWith e t l env = pure false := by
  cases e <;> first | rfl | cases h
theorem swaps_of {elt : Expr} {gs : List Comprehension} {scope : Scope} {pos py : Pos} {x : Str} {l : Nat} {env : Env} {sc : Scope} (hsc : env.scope = sc) (hk : env.blockKind = ScopeKind.function) : swapsWith (.ListComp elt gs scope pos) (some (.Name x py)) l env = pure (swapsC sc x py (.ListComp elt gs scope pos)) := by
  have e1 : (env.blockKind == ScopeKind.function) = true := by rw [hk]; rfl
  have e2 : (env.kindOf x == some .local) = decide (sc.names.lookup x = some .local) := by
    show (env.scope.names.lookup x == some .local) = _
    rw [hsc, Bool.beq_eq_decide_eq]
  unfold swapsWith swapsC
  dsimp only
  rw [e1, e2, Bool.true_and]
  rfl
section
variable {cf : Nat → List D → M D} {T : Tab} {sc : Scope} {k : Nat} {N : List Str} {X : Cx} {fa : Nat → Addr} {eo : Nat → Option (Value × Option Str)} {W : WX} {K : PySem.W.Frag} {σ : L2.St} {H : Hp} {φ hid : List Addr} {st : Store} {ρ : Rho}
theorem GoodS.bk (G : GoodS T fa eo k N sc X) : X.env.blockKind = ScopeKind.function := by
  unfold Env.blockKind
  rw [G.kd]; rfl
structure SndS (T : Tab) (fa : Nat → Addr) (eo : Nat → Option (Value × Option Str)) (k : Nat) (N : List Str) (t : S) : Prop where
  one : ∀ {sc e X W}, GoodS T fa eo k N sc X → Takes X W → chkS T N t sc e = true → PS X e (rdS (callF T.tbl k) eo X.K fa W t)
  all : ∀ {sc es X W}, GoodS T fa eo k N sc X → Takes X W → chkSs T N t sc es = true → PSs X es (rdS (callF T.tbl k) eo X.K fa W t)
theorem SndS.ofS {s : S} (h : ∀ {sc e X W}, GoodS T fa eo k N sc X → Takes X W → chkS T N s sc e = true → PS X e (rdS (callF T.tbl k) eo X.K fa W s)) (ha : ∀ sc es, chkSs T N s sc es = false) : SndS T fa eo k N s := ⟨h, fun {sc es X W} _ _ q => by rw [ha] at q; cases q⟩
theorem sndS_skip : SndS T fa eo k N .skip where
  one := fun {sc e X W} G tk h => by
    unfold chkS at h
    split at h
    · refine PS.weak ps_pass fun D σ H q => ?_
      obtain ⟨ρ, st, φ, hid, hE, hS, w⟩ := q
      exact (show Wn eo X.K fa (Wall W σ.length) σ φ hid H (.ok (.nx ρ) st) (FlC X.K fa hid σ.length D) from w).now hS σ rfl hE
    · cases h
  all := fun {sc es X W} G tk h => by
    cases es with
    | nil =>
      refine PSs.weak pss_nil fun D σ H q => ?_
      obtain ⟨ρ, st, φ, hid, hE, hS, w⟩ := q
      exact (show Wn eo X.K fa (Wall W σ.length) σ φ hid H (.ok (.nx ρ) st) (FlC X.K fa hid σ.length D) from w).now hS σ rfl hE
    | cons _ _ => exact Bool.noConfusion (show false = true from h)
/-- two in a row -/
def seqF (cf : Nat → List D → M D) (b : S) : Fl → M Fl := fun f => match f with
    | .nx ρ' => evS cf b ρ'
    | f => fun st => .ok f st
theorem sndS_seq {a b : S} (ia : SndS T fa eo k N a) (ib : SndS T fa eo k N b) : SndS T fa eo k N (.seq a b) where
  one := fun {sc e X W} G tk h => Bool.noConfusion (show false = true from h)
  all := fun {sc es X W} G tk h => by
    unfold chkSs at h
    split at h
    · rw [Bool.and_eq_true] at h
      refine PSs.weak (pss_cons (ia.one G tk h.1) (ib.all G tk h.2)) fun D σ H q => ?_
      obtain ⟨ρ, st, φ, hid, hE, hS, w⟩ := q
      have w' : Wn eo X.K fa (Wall W σ.length) σ φ hid H ((evS (callF T.tbl k) a ρ >>= seqF (callF T.tbl k) b) st) (FlC X.K fa hid σ.length D) := w
      refine ⟨ρ, st, φ, hid, hE, hS, w'.step fun f st1 φ1 H1 x1 S1 w1 => ?_⟩
      cases f with
      | nx ρ' => exact fun σ' hl hE' => ⟨ρ', st1, φ1, hid, hE', S1, by rw [hl]; exact Wn.slots w1⟩
      | bk ρ' => exact (show Wn eo X.K fa (Wall W σ.length) σ φ1 hid H1 (.ok (.bk ρ') st1) (FlC X.K fa hid σ.length D) from w1).now S1
      | ct ρ' => exact (show Wn eo X.K fa (Wall W σ.length) σ φ1 hid H1 (.ok (.ct ρ') st1) (FlC X.K fa hid σ.length D) from w1).now S1
      | rt d => exact (show Wn eo X.K fa (Wall W σ.length) σ φ1 hid H1 (.ok (.rt d) st1) (FlC X.K fa hid σ.length D) from w1).now S1
    · cases h
theorem sndS_ex {e : E} : SndS T fa eo k N (.ex e) := SndS.ofS (fun {sc s X W} G tk h => by
    unfold chkS at h
    split at h
    · rw [Bool.and_eq_true] at h
      refine PS.weak (ps_expr ((snd e).e G.toGood tk h.2).1 (swaps_no (by simpa using h.1))) fun D σ H q => ?_
      obtain ⟨ρ, st, φ, hid, hE, hS, w⟩ := q
      have w' : Wn eo X.K fa (Wall W σ.length) σ φ hid H ((evE (callF T.tbl k) e ρ >>= fun _ => (fun st => .ok (.nx ρ) st : M Fl)) st) (FlC X.K fa hid σ.length D) := w
      exact rdE_bindW hE hS w' fun d st1 φ1 H1 v hE1 hS1 r1 x1 w1 => w1.now hS1 σ rfl hE1
    · cases h) (fun _ _ => rfl)
theorem sndS_ret {e : E} : SndS T fa eo k N (.ret e) := SndS.ofS (fun {sc s X W} G tk h => by
    unfold chkS at h
    split at h
    · refine PS.weak (ps_ret ((snd e).e G.toGood tk h).1) fun D σ H q => ?_
      obtain ⟨ρ, st, φ, hid, hE, hS, w⟩ := q
      have w' : Wn eo X.K fa (Wall W σ.length) σ φ hid H ((evE (callF T.tbl k) e ρ >>= fun d => (fun st => .ok (.rt d) st : M Fl)) st) (FlC X.K fa hid σ.length D) := w
      exact rdE_bindW hE hS w' fun d st1 φ1 H1 v hE1 hS1 r1 x1 w1 => w1.now hS1 v r1
    · cases h) (fun _ _ => rfl)
theorem sndS_retN : SndS T fa eo k N .retN := SndS.ofS (fun {sc s X W} G tk h => by
    unfold chkS at h
    split at h
    · refine PS.weak ps_retN fun D σ H q => ?_
      obtain ⟨ρ, st, φ, hid, hE, hS, w⟩ := q
      exact (show Wn eo X.K fa (Wall W σ.length) σ φ hid H (.ok (.rt .non) st) (FlC X.K fa hid σ.length D) from w).now hS _ .non
    · cases h) (fun _ _ => rfl)
theorem sndS_brk : SndS T fa eo k N .brk := SndS.ofS (fun {sc s X W} G tk h => by
    unfold chkS at h
    split at h
    · refine PS.weak ps_break fun D σ H q => ?_
      obtain ⟨ρ, st, φ, hid, hE, hS, w⟩ := q
      exact (show Wn eo X.K fa (Wall W σ.length) σ φ hid H (.ok (.bk ρ) st) (FlC X.K fa hid σ.length D) from w).now hS σ rfl hE
    · cases h) (fun _ _ => rfl)
theorem sndS_cont : SndS T fa eo k N .cont := SndS.ofS (fun {sc s X W} G tk h => by
    unfold chkS at h
    split at h
    · refine PS.weak ps_continue fun D σ H q => ?_
      obtain ⟨ρ, st, φ, hid, hE, hS, w⟩ := q
      exact (show Wn eo X.K fa (Wall W σ.length) σ φ hid H (.ok (.ct ρ) st) (FlC X.K fa hid σ.length D) from w).now hS σ rfl hE
    · cases h) (fun _ _ => rfl)
theorem sndS_ite {c : E} {a b : S} (ia : SndS T fa eo k N a) (ib : SndS T fa eo k N b) : SndS T fa eo k N (.ite c a b) := SndS.ofS (fun {sc s X W} G tk h => by
    unfold chkS at h
    split at h
    · rw [Bool.and_eq_true, Bool.and_eq_true] at h
      refine PS.weak (ps_if ((snd c).e G.toGood tk h.1.1).2 (ia.all G tk h.1.2) (ib.all G tk h.2)) fun D σ H q => ?_
      obtain ⟨ρ, st, φ, hid, hE, hS, w⟩ := q
      have w' : Wn eo X.K fa (Wall W σ.length) σ φ hid H ((evE (callF T.tbl k) c ρ >>= fun x => asBool x >>= fun kk => if kk then evS (callF T.tbl k) a ρ else evS (callF T.tbl k) b ρ) st) (FlC X.K fa hid σ.length D) := w
      refine rdT_all (rdT_bind hE hS w' fun bb st1 φ1 H1 hE1 hS1 x1 w1 => ?_)
      cases bb with
      | true => exact ⟨ρ, st1, φ1, hid, hE1, hS1, w1⟩
      | false => exact ⟨ρ, st1, φ1, hid, hE1, hS1, w1⟩
    · cases h) (fun _ _ => rfl)
/-- a value is stored -/
theorem asg_name {i : Nat} {e : E} {D : Ends} (hE : EnvOk K fa ρ σ φ hid H) (hS : StoreOk K fa st φ hid H) (w : Wn eo K fa (Wall W σ.length) σ φ hid H (evS cf (.asg (.nm i) e) ρ st) (FlC K fa hid σ.length D)) : tAsg (rdE cf eo K fa W e) (gName i) D σ H := by
  have w' : Wn eo K fa (Wall W σ.length) σ φ hid H ((evE cf e ρ >>= fun d => (fun st => .ok (.nx (ρ.set i (some d))) st : M Fl)) st) (FlC K fa hid σ.length D) := w
  exact rdE_bindW hE hS w' fun d st1 φ1 H1 v hE1 hS1 r1 x1 w1 => w1.now hS1 _ (List.length_set ..) (hE1.set r1)
theorem asg_gen {t : PC.T} {e : E} {D : Ends} (hE : EnvOk K fa ρ σ φ hid H) (hS : StoreOk K fa st φ hid H) (w : Wn eo K fa (Wall W σ.length) σ φ hid H (evS cf (.asg t e) ρ st) (FlC K fa hid σ.length D)) : tAsg (rdE cf eo K fa W e) (rdG cf eo K fa W t) D σ H := by
  have w' : Wn eo K fa (Wall W σ.length) σ φ hid H ((evE cf e ρ >>= fun d => asT cf t d ρ >>= fun ρ' => (fun st => .ok (.nx ρ') st : M Fl)) st) (FlC K fa hid σ.length D) := w
  refine rdE_bindW hE hS w' fun d st1 φ1 H1 v hE1 hS1 r1 x1 w1 => ⟨ρ, st1, φ1, hid, d, hE1, hS1, r1, w1.step fun ρ' st2 φ2 H2 x2 S2 w2 σ' hl hE' => ?_⟩
  exact w2.now S2 σ' hl hE'
/-- the pair is stored from the right: as good as from the left -/
theorem asg_par {i j : Nat} {es : E} {D : Ends} (hne : i ≠ j) (hE : EnvOk K fa ρ σ φ hid H) (hS : StoreOk K fa st φ hid H) (w : Wn eo K fa (Wall W σ.length) σ φ hid H (evS cf (.asg (.tup (.cons (.nm i) (.cons (.nm j) .nil))) (.tup es)) ρ st) (FlC K fa hid σ.length D)) : tPar i j (rdA cf eo K fa W es) D σ H := by
  have w' : Wn eo K fa (Wall W σ.length) σ φ hid H ((evE cf (.tup es) ρ >>= fun d => asT cf (.tup (.cons (.nm i) (.cons (.nm j) .nil))) d ρ >>= fun ρ' => (fun st => .ok (.nx ρ') st : M Fl)) st) (FlC K fa hid σ.length D) := w
  have w2 : Wn eo K fa (Wall W σ.length) σ φ hid H ((evE cf es ρ >>= fun r => tupOf r >>= fun ds => mkTup ds >>= fun d => asT cf (.tup (.cons (.nm i) (.cons (.nm j) .nil))) d ρ >>= fun ρ' => (fun st => .ok (.nx ρ') st : M Fl)) st) (FlC K fa hid σ.length D) := by
    have e1 : (evE cf (.tup es) ρ >>= fun d => asT cf (.tup (.cons (.nm i) (.cons (.nm j) .nil))) d ρ >>= fun ρ' => (fun st => .ok (.nx ρ') st : M Fl)) st = (evE cf es ρ >>= fun r => tupOf r >>= fun ds => mkTup ds >>= fun d => asT cf (.tup (.cons (.nm i) (.cons (.nm j) .nil))) d ρ >>= fun ρ' => (fun st => .ok (.nx ρ') st : M Fl)) st :=
      (bind_assoc (evE cf es ρ) (fun r => tupOf r >>= mkTup) _ st).trans (bind_ext (fun r s => bind_assoc (tupOf r) mkTup _ s) st)
    rw [← e1]; exact w'
  refine rdA_all (rdA_bind hE hS w2 fun ds st1 φ1 H1 vs hE1 hS1 r1 x1 w3 => ?_)
  have w4 : Wn eo K fa (Wall W σ.length) σ φ1 hid H1 ((mkTup ds >>= fun d => asT cf (.tup (.cons (.nm i) (.cons (.nm j) .nil))) d ρ >>= fun ρ' => (fun st => .ok (.nx ρ') st : M Fl)) st1) (FlC K fa hid σ.length D) := w3
  rw [M.bind_eq] at w4
  by_cases hf : fits ds.length = true
  · have e2 : mkTup ds st1 = .ok (.tup ds) st1 := if_pos hf
    rw [e2] at w4
    by_cases hl : ds.length = 2
    · match ds, hl, r1, w4 with
      | [a, b], _, r1, w4 =>
        cases r1 with
        | cons ra rb =>
          cases rb with
          | cons rb rn =>
            cases rn
            refine ⟨_, _, rfl, ?_⟩
            have w5 : Wn eo K fa (Wall W σ.length) σ φ1 hid H1 (.ok (.nx ((ρ.set i (some a)).set j (some b))) st1) (FlC K fa hid σ.length D) := w4
            exact w5.now hS1 _ (by rw [List.length_set, List.length_set]) ((hE1.set ra).set rb)
    · exfalso
      have e3 : itemsM (lenT (.cons (.nm i) (.cons (.nm j) .nil))) (.tup ds) st1 = .stuck := if_neg hl
      have w5 : Wn eo K fa (Wall W σ.length) σ φ1 hid H1 (((itemsM (lenT (.cons (.nm i) (.cons (.nm j) .nil))) (.tup ds) >>= fun xs => asTs cf (.cons (.nm i) (.cons (.nm j) .nil)) xs ρ) >>= fun ρ' => (fun st => .ok (.nx ρ') st : M Fl)) st1) (FlC K fa hid σ.length D) := w4
      have w6 := w5.bind.bind
      rw [e3] at w6
      exact w6
  · have e2 : mkTup ds st1 = .stuck := if_neg hf
    rw [e2] at w4
    exact w4.elim
/-- a comprehension of the text is the evaluator's -/
theorem comp_of {e : E} {elt : Expr} {gs : List Comprehension} {scope : Scope} {p : Pos} (h : chkE T N e sc (.ListComp elt gs scope p) = true) : ∃ cell elt' tg one it cond, e = .comp cell elt' tg one it cond := by
  cases e with
  | comp cell elt' tg one it cond => exact ⟨_, _, _, _, _, _, rfl⟩
  | bi b es =>
    exfalso
    cases b <;> exact Bool.noConfusion (show false = true from h)
  | callv f es => cases f <;> exact Bool.noConfusion (show false = true from h)
  | _ => exact Bool.noConfusion (show false = true from h)
theorem comp_set (G : Good T fa eo k N sc X) (tk : Takes X W) {cell one : Bool} {tg : List Nat} {elt' it cond : E} {elt : Expr} {gs : List Comprehension} {scope : Scope} {p py spos : Pos} {i : Nat} {x : Str} (hi : X.N[i]? = some x) (hx : X.env.scope.names.lookup x = some .local)
    (hsw : swapsWith (.ListComp elt gs scope p) (some (.Name x py)) spos.line X.env = pure true) (h : chkE T N (.comp cell elt' tg one it cond) sc (.ListComp elt gs scope p) = true) : PS X (.Assign [.Name x py] (.ListComp elt gs scope p) spos) (tAsg (rdE (callF T.tbl k) eo X.K fa W (.comp cell elt' tg one it cond)) (gName i)) := by
  unfold chkE at h
  split at h
  · rename_i elt1 tg' iter' ifs' scope1 p1 he
    cases he
    split at h
    · rename_i own ho
      simp only [Bool.and_eq_true] at h
      obtain ⟨⟨⟨⟨h1, h2⟩, h3⟩, h4⟩, h5⟩ := h
      refine PS.weak (ps_setLc (own := own) (g := gOf X.K one tg) (tt := rdT (callF T.tbl k) eo X.K fa W0 cond) (te := rdE (callF T.tbl k) eo X.K fa W0 elt') G.calm (by rw [G.hN]; exact G.nd) hi hx hsw ((snd it).i G tk h3) (by rw [G.hN, G.sc]; exact blkOk_by h1)
        (fun s H C cl fp => (pg_of G ho).1) (fun s H C cl fp => ?_) (fun s H C cl fp => ((snd elt').e (G.blk s H scope cl C fp) takes0 h5).1) (folded_of h2)) fun D σ H q => ?_
      · split at h4
        · refine ⟨fun pins s σ H Q I q => pts_nil.run pins s σ H Q I ?_⟩
          obtain ⟨ρ, st, φ, hid, hE, hS, w⟩ := q
          unfold isTrueE at h4
          split at h4
          · exact (show Wn eo _ fa _ σ φ hid H (.ok true st) (fun b _ _ H' => Q b H') from w).now hS
          · cases h4
        · exact pts_one ((snd cond).e (G.blk s H scope cl C fp) takes0 h4).2
        · cases h4
      · rw [own_tg ho]
        exact comp_rd tg_ok q
    · cases h
  · cases h
theorem sndS_asg {t : PC.T} {e : E} : SndS T fa eo k N (.asg t e) := SndS.ofS (fun {sc s X W} G tk h => by
    have hN : X.N.Nodup := by rw [G.hN]; exact G.nd
    unfold chkS at h
    split at h
    · rename_i t' e' pos
      split at h
      · rename_i i x py elt' gs scope p
        rw [Bool.and_eq_true, Bool.and_eq_true] at h
        obtain ⟨⟨h1, h2⟩, h3⟩ := h
        have hi : X.N[i]? = some x := by rw [G.hN]; exact of_decide_eq_true h1
        have sw := fun l => swaps_of (elt := elt') (gs := gs) (scope := scope) (pos := p) (py := py) (x := x) (l := l) G.sc G.bk
        cases hsw : swapsC sc x py (.ListComp elt' gs scope p) with
        | false =>
          refine PS.weak (ps_set hN hi (G.loc h2) ((snd e).e G.toGood tk h3).1 ((sw _).trans (by rw [hsw])) (.inl (G.cw _))) fun D σ H q => ?_
          obtain ⟨ρ, st, φ, hid, hE, hS, w⟩ := q
          exact asg_name hE hS w
        | true =>
          obtain ⟨cell, elt2, tg, one, it, cond, rfl⟩ := comp_of h3
          have hx : X.env.scope.names.lookup x = some .local := by
            rw [G.sc]
            unfold swapsC at hsw
            rw [Bool.and_eq_true, Bool.and_eq_true] at hsw
            exact of_decide_eq_true hsw.1.1
          refine PS.weak (comp_set G.toGood tk hi hx ((sw _).trans (by rw [hsw])) h3) fun D σ H q => ?_
          obtain ⟨ρ, st, φ, hid, hE, hS, w⟩ := q
          exact asg_name hE hS w
      · rename_i i x py e'
        simp only [Bool.and_eq_true] at h
        obtain ⟨⟨⟨h1, h2⟩, h3⟩, h4⟩ := h
        refine PS.weak (ps_set hN (by rw [G.hN]; exact of_decide_eq_true h1) (G.loc h2) ((snd e).e G.toGood tk h4).1 (swaps_no (by simpa using h3)) (.inl (G.cw _))) fun D σ H q => ?_
        obtain ⟨ρ, st, φ, hid, hE, hS, w⟩ := q
        exact asg_name hE hS w
      · rename_i i j x px y py j1 p1 a b k2 pt2
        split at h
        · rename_i hc
          simp only [Bool.and_eq_true] at hc h
          obtain ⟨⟨⟨⟨⟨⟨⟨c1, c2⟩, c3⟩, c4⟩, c5⟩, c6⟩, c7⟩, c8⟩ := hc
          obtain ⟨⟨⟨h1, h2⟩, h3⟩, h4⟩ := h
          split at h4
          · have hx : X.env.scope.names.lookup x = some .local := by rw [G.sc]; exact of_decide_eq_true c1
            have hy : X.env.scope.names.lookup y = some .local := by rw [G.sc]; exact of_decide_eq_true c2
            refine PS.weak (ps_par G.calm hN (by rw [G.hN]; exact of_decide_eq_true h1) (by rw [G.hN]; exact of_decide_eq_true h2) (of_decide_eq_true h3) hx hy ((snd _).a G.toGood tk h4).pa (swap_two G.bk hx hy c3 (of_decide_eq_true c4) c5 c6 (by rw [Bool.not_eq_true'] at c7; exact c7) (by rw [Bool.not_eq_true'] at c8; exact c8)) rfl) fun D σ H q => ?_
            obtain ⟨ρ, st, φ, hid, hE, hS, w⟩ := q
            exact asg_par (of_decide_eq_true h3) hE hS w
          · cases h4
        · simp only [Bool.and_eq_true] at h
          obtain ⟨⟨h1, h2⟩, h3⟩ := h
          refine PS.weak (ps_asg ((snd e).e G.toGood tk h3).1 ((sndT _).one G tk h2) rfl (swap_none G.sc h1) (by rw [assignEach_cons rfl]; rfl)) fun D σ H q => ?_
          obtain ⟨ρ, st, φ, hid, hE, hS, w⟩ := q
          exact asg_gen hE hS w
      · simp only [Bool.and_eq_true] at h
        obtain ⟨⟨⟨h0, h1⟩, h2⟩, h3⟩ := h
        refine PS.weak (ps_asg ((snd e).e G.toGood tk h3).1 ((sndT _).one G tk h2) ?_ (swap_none G.sc h1) (by rw [assignEach_cons h0]; rfl)) fun D σ H q => ?_
        · show swapsWith e' (some t') _ X.env = pure false
          cases t' <;> first | exact Bool.noConfusion (show false = true from h1) | (cases e' <;> rfl)
        · obtain ⟨ρ, st, φ, hid, hE, hS, w⟩ := q
          exact asg_gen hE hS w
    · cases h) (fun _ _ => rfl)
end
end PC
set_option Elab.async false
set_option linter.all false
set_option maxRecDepth 100000
set_option maxHeartbeats 4000000
namespace PC
open PySem PySem.Spec L2
section
variable {cf : Nat → List D → M D} {T : Tab} {sc : Scope} {k : Nat} {N : List Str} {X : Cx} {fa : Nat → Addr} {eo : Nat → Option (Value × Option Str)} {W : WX} {K : PySem.W.Frag} {σ : L2.St} {H : Hp} {φ hid : List Addr} {st : Store} {ρ : Rho}
theorem pip_of {op : Operator} {r : R2} (ho : OpR X (inplaceOp op) r) : PIp X op r := fun pins s σ H x y v u Q I r1 r2 h => ho pins s σ H x y v u Q I r1 r2 h
theorem iop_mulA : OpR X (inplaceOp .Mult) (rI (fun i j => IntMulOk i j) fun i j => .int (i * j)) := opI fun _ _ _ _ _ _ _ hc q => PyProof.Rows.imul_int q hc
theorem augD {b : Bi} {op : Operator} (h : opAug b = some op) : PIp X op (rV eo X.K fa (augV b)) := by
  cases b with
  | add c =>
    cases h
    exact pip_of fun pins s σ H x y v u Q I r1 r2 ⟨φ, hid, st, d, e, W, σ', S, q1, q2, w⟩ => by
      cases q1 with
      | int i => cases q2 with
        | int j => exact iop_add pins s σ H _ _ v u Q I r1 r2 ⟨i, j, rfl, rfl, Wn.val S (.int _) w⟩
        | _ => exact (show False from w).elim
      | _ => exact (show False from w).elim
  | sub =>
    cases h
    exact pip_of fun pins s σ H x y v u Q I r1 r2 ⟨φ, hid, st, d, e, W, σ', S, q1, q2, w⟩ => by
      cases q1 with
      | int i => cases q2 with
        | int j => exact iop_sub pins s σ H _ _ v u Q I r1 r2 ⟨i, j, rfl, rfl, Wn.val S (.int _) w⟩
        | _ => exact (show False from w).elim
      | _ => exact (show False from w).elim
  | mul c =>
    cases h
    exact pip_of fun pins s σ H x y v u Q I r1 r2 ⟨φ, hid, st, d, e, W, σ', S, q1, q2, w⟩ => by
      cases q1 with
      | int i => cases q2 with
        | int j =>
          have w2 : Wn eo X.K fa W σ' φ hid H (if mulOk i j then .ok (.int (i * j)) st else .stuck) (CE X.K fa hid Q) := w
          split at w2
          · rename_i hm
            exact iop_mulA pins s σ H _ _ v u Q I r1 r2 ⟨i, j, rfl, rfl, mulOk_of hm, Wn.val S (.int _) w2⟩
          · exact w2.elim
        | _ => exact (show False from w).elim
      | _ => exact (show False from w).elim
  | _ => cases h
theorem sndS_aug {i : Nat} {b : Bi} {e : E} : SndS T fa eo k N (.aug i b e) := SndS.ofS (fun {sc s X W} G tk h => by
    unfold chkS at h
    split at h
    · simp only [Bool.and_eq_true] at h
      obtain ⟨⟨⟨h1, h2⟩, h3⟩, h4⟩ := h
      refine PS.weak (ps_aug (by rw [G.hN]; exact G.nd) (by rw [G.hN]; exact of_decide_eq_true h1) (G.loc h2) ((snd e).e G.toGood tk h4).1 (augD (eo := eo) (fa := fa) (of_decide_eq_true h3)) (.inl (G.cw _))) fun D σ H q => ?_
      obtain ⟨ρ, st, φ, hid, hE, hS, w⟩ := q
      have w' : Wn eo X.K fa (Wall W σ.length) σ φ hid H ((getV ρ i >>= fun x => evE (callF T.tbl k) e ρ >>= fun y => augV b x y >>= fun z => (fun st => .ok (.nx (ρ.set i (some z))) st : M Fl)) st) (FlC X.K fa hid σ.length D) := w
      have w2 := w'.bind
      have e1 : getV ρ i st = (match ρ[i]? with
        | some (some d) => .ok d st
        | _ => .stuck) := rfl
      rw [e1] at w2
      split at w2
      · rename_i d hd
        obtain ⟨v, hv, r⟩ := hE.2 i d hd
        refine ⟨v, hv, rdE_bindW hE hS (w2.now hS) fun d2 st1 φ1 H1 v2 hE1 hS1 r1 x1 w3 => ?_⟩
        refine ⟨φ1, hid, st1, d, d2, Wall W σ.length, σ, hS1, r.ext x1, r1, w3.step fun z st2 φ2 H2 x2 S2 w4 u ru => ?_⟩
        exact w4.now S2 _ (List.length_set ..) ((hE1.ext x2).set ru)
      · exact w2.elim
    · cases h) (fun _ _ => rfl)
theorem sndS_while {c : E} {b : S} (ib : SndS T fa eo k N b) : SndS T fa eo k N (.while_ c b) := SndS.ofS (fun {sc s X W} G tk h => by
    unfold chkS at h
    split at h
    · rw [Bool.and_eq_true] at h
      refine PS.weak (ps_while G.po ((snd c).e G.toGood tk h.1).2 (ib.all G tk h.2)) fun D σ H q => ?_
      obtain ⟨ρ, st, φ, hid, hE, hS, w⟩ := q
      let test : Rho → M Bool := fun ρ => evE (callF T.tbl k) c ρ >>= asBool
      let body : Rho → M Fl := fun ρ => evS (callF T.tbl k) b ρ
      refine ⟨fun m σ' H' => σ'.length = σ.length ∧ ∃ ρ st φ, EnvOk X.K fa ρ σ' φ hid H' ∧ StoreOk X.K fa st φ hid H' ∧ Wn eo X.K fa (Wall W σ.length) σ' φ hid H' (whileM test body m ρ st) (FlC X.K fa hid σ.length D), ⟨fuelW, rfl, ρ, st, φ, hE, hS, w⟩, ?_⟩
      rintro m σ' H' ⟨hl, ρ, st, φ, hE, hS, w⟩
      cases m with
      | zero => exact (show False from w).elim
      | succ m =>
        have w' : Wn eo X.K fa (Wall W σ.length) σ' φ hid H' ((evE (callF T.tbl k) c ρ >>= fun x => asBool x >>= fun kk => if kk then (evS (callF T.tbl k) b ρ >>= fun f => match f with
          | .nx ρ' => whileM test body m ρ'
          | .ct ρ' => whileM test body m ρ'
          | .bk ρ' => fun st => .ok (.nx ρ') st
          | .rt d => fun st => .ok (.rt d) st) else fun st => .ok (.nx ρ) st) st) (FlC X.K fa hid σ.length D) := by
          have e1 : whileM test body (m + 1) ρ st = (evE (callF T.tbl k) c ρ >>= fun x => asBool x >>= fun kk => if kk then (evS (callF T.tbl k) b ρ >>= fun f => match f with
            | .nx ρ' => whileM test body m ρ'
            | .ct ρ' => whileM test body m ρ'
            | .bk ρ' => fun st => .ok (.nx ρ') st
            | .rt d => fun st => .ok (.rt d) st) else fun st => .ok (.nx ρ) st) st := bind_assoc (evE (callF T.tbl k) c ρ) asBool _ st
          rw [← e1]; exact w
        rw [← hl] at w'
        refine rdT_all (rdT_bind hE hS w' fun bb st1 φ1 H1 hE1 hS1 x1 w1 => ?_)
        cases bb with
        | false => exact (hl ▸ w1.now hS1 : FlC X.K fa hid σ'.length D (.nx ρ) st1 φ1 H1) σ' rfl hE1
        | true =>
          refine ⟨_, fun σ2 H2 n2 => ⟨m, Nat.lt_succ_self _, n2⟩, ρ, st1, φ1, hid, hE1, hS1, w1.step fun f st2 φ2 H2 x2 S2 w2 => ?_⟩
          cases f with
          | nx ρ' => exact fun σ3 hl3 hE3 => ⟨hl3.trans hl, ρ', st2, φ2, hE3, S2, hl ▸ Wn.slots w2⟩
          | ct ρ' => exact fun σ3 hl3 hE3 => ⟨hl3.trans hl, ρ', st2, φ2, hE3, S2, hl ▸ Wn.slots w2⟩
          | bk ρ' => exact fun σ3 hl3 hE3 => (hl ▸ w2.now S2 : FlC X.K fa hid σ'.length D (.nx ρ') st2 φ2 H2) σ3 hl3 hE3
          | rt d => exact fun v r => (hl ▸ w2.now S2 : FlC X.K fa hid σ'.length D (.rt d) st2 φ2 H2) v r
    · cases h) (fun _ _ => rfl)
end
end PC
set_option Elab.async false
set_option linter.all false
set_option maxRecDepth 100000
set_option maxHeartbeats 4000000
namespace PC
open PySem PySem.Spec L2
/-- what is left of a loop -/
def runL (body : D → Rho → M Fl) : Src → Nat → Nat → Rho → M Fl
  | .items xs, i, _, ρ => loopItems body (xs.drop i) ρ
  | .cell n, i, m, ρ => loopCell body n m i ρ
def fitM : Src → Nat → Nat → Prop
  | .items xs, i, m => m = xs.length - i
  | .cell _, _, _ => True
def loopF (next : Rho → M Fl) : Fl → M Fl := fun f => match f with
    | .nx ρ' => next ρ'
    | .ct ρ' => next ρ'
    | .bk ρ' => fun st => .ok (.nx ρ') st
    | .rt d => fun st => .ok (.rt d) st
theorem run_turn {body : D → Rho → M Fl} {src : Src} {i m : Nat} {st : Store} {ρ : Rho} {eo : Nat → Option (Value × Option Str)} {K : PySem.W.Frag} {fa : Nat → Addr} {W : WX} {σ : L2.St} {φ hid : List Addr} {H : Hp} {C : Fl → Store → List Addr → Hp → Prop} (hf : fitM src i m) (w : Wn eo K fa W σ φ hid H (runL body src i m ρ st) C) :
    ∃ xs, cur st src = some xs ∧ ((xs[i]? = none ∧ Wn eo K fa W σ φ hid H (.ok (.nx ρ) st) C) ∨ ∃ x m', xs[i]? = some x ∧ m' < m ∧ fitM src (i + 1) m' ∧ Wn eo K fa W σ φ hid H ((body x ρ >>= loopF (runL body src (i + 1) m')) st) C) := by
  cases src with
  | items xs =>
    refine ⟨xs, rfl, ?_⟩
    have hf : m = xs.length - i := hf
    have w1 : Wn eo K fa W σ φ hid H (loopItems body (xs.drop i) ρ st) C := w
    by_cases hi : i < xs.length
    · rw [List.drop_eq_getElem_cons hi] at w1
      exact .inr ⟨xs[i], xs.length - (i + 1), List.getElem?_eq_getElem hi, by omega, rfl, w1⟩
    · rw [List.drop_eq_nil_of_le (by omega)] at w1
      exact .inl ⟨List.getElem?_eq_none (by omega), w1⟩
  | cell n =>
    have w1 : Wn eo K fa W σ φ hid H (loopCell body n m i ρ st) C := w
    cases hc : st[n]? with
    | none =>
      exfalso
      cases m with
      | zero =>
        unfold loopCell at w1
        rw [hc] at w1; exact w1
      | succ m =>
        unfold loopCell at w1
        rw [hc] at w1; exact w1
    | some c =>
      cases c with
      | lst ys =>
        have hcur : cur st (.cell n) = some ys := by
          show (match st[n]? with
            | some (.lst xs) => some xs
            | none => none) = some ys
          rw [hc]
        refine ⟨ys, hcur, ?_⟩
        cases m with
        | zero =>
          unfold loopCell at w1
          rw [hc] at w1
          dsimp only at w1
          split at w1
          · rename_i hl
            exact .inl ⟨List.getElem?_eq_none hl, w1⟩
          · exact w1.elim
        | succ m =>
          unfold loopCell at w1
          rw [hc] at w1
          dsimp only at w1
          cases hy : ys[i]? with
          | none =>
            rw [hy] at w1
            exact .inl ⟨rfl, w1⟩
          | some y =>
            rw [hy] at w1
            exact .inr ⟨y, m, rfl, Nat.lt_succ_self _, trivial, w1⟩
theorem run_start {body : D → Rho → M Fl} {src : Src} {st : Store} {ρ : Rho} {eo : Nat → Option (Value × Option Str)} {K : PySem.W.Frag} {fa : Nat → Addr} {W : WX} {σ : L2.St} {φ hid : List Addr} {H : Hp} {C : Fl → Store → List Addr → Hp → Prop} (w : Wn eo K fa W σ φ hid H (loopSrc body src ρ st) C) :
    ∃ m, fitM src 0 m ∧ Wn eo K fa W σ φ hid H (runL body src 0 m ρ st) C := by
  cases src with
  | items xs => exact ⟨_, rfl, w⟩
  | cell n =>
    have w1 : Wn eo K fa W σ φ hid H (match st[n]? with
      | some (.lst ys) => loopCell body n ys.length 0 ρ st
      | none => .stuck) C := w
    cases hc : st[n]? with
    | none => rw [hc] at w1; exact w1.elim
    | some c =>
      cases c with
      | lst ys => rw [hc] at w1; exact ⟨_, trivial, w1⟩
section
variable {cf : Nat → List D → M D} {T : Tab} {sc : Scope} {k : Nat} {N : List Str} {X : Cx} {fa : Nat → Addr} {eo : Nat → Option (Value × Option Str)} {W : WX} {K : PySem.W.Frag} {σ : L2.St} {H : Hp} {φ hid : List Addr} {st : Store} {ρ : Rho}
theorem sndS_for {t : PC.T} {it : E} {b : S} (ib : SndS T fa eo k N b) : SndS T fa eo k N (.for_ t it b) := SndS.ofS (fun {sc s X W} G tk h => by
    unfold chkS at h
    split at h
    · simp only [Bool.and_eq_true] at h
      obtain ⟨⟨⟨h0, h1⟩, h2⟩, h3⟩ := h
      refine PS.weak (ps_for G.po G.calm ((snd it).i G.toGood tk h2) ((sndT t).one G tk h1) (ib.all G tk h3) (folded_of h0)) fun D σ H q => ?_
      obtain ⟨ρ, st, φ, hid, hE, hS, w⟩ := q
      let body : PC.D → Rho → M Fl := fun d ρ => asT (callF T.tbl k) t d ρ >>= fun ρ' => evS (callF T.tbl k) b ρ'
      have w' : Wn eo X.K fa (Wall W σ.length) σ φ hid H ((evI (callF T.tbl k) it ρ >>= fun s => loopSrc body s ρ) st) (FlC X.K fa hid σ.length D) := w
      refine rdI_all ⟨ρ, st, φ, hid, hE, hS, w'.step fun src st1 φ1 H1 ex1 S1 w1 J hJ => ?_⟩
      obtain ⟨m0, f0, w2⟩ := run_start w1
      refine ⟨fun i m σ' H' => σ'.length = σ.length ∧ fitM src i m ∧ ∃ ρ st φ', Ext φ1 H1 φ' H' ∧ EnvOk X.K fa ρ σ' φ' hid H' ∧ StoreOk X.K fa st φ' hid H' ∧ Wn eo X.K fa (Wall W σ.length) σ' φ' hid H' (runL body src i m ρ st) (FlC X.K fa hid σ.length D),
        ⟨m0, rfl, f0, ρ, st1, φ1, .refl, hE.ext ex1, S1, w2⟩, ?_⟩
      rintro i m σ' H' ⟨hl, hf, ρ, st, φ', ex, hE, hS, w⟩
      obtain ⟨xs, hx, hcase⟩ := run_turn hf w
      have hJ' := hJ hid (fun b hb => .inl hb) i φ' H' st ex hS xs (by cases src <;> exact hx)
      rcases hcase with ⟨hn, w3⟩ | ⟨x, m', hxi, hm, hf', w3⟩
      · exact .inl ⟨hJ'.2 hn, w3.now hS σ' hl hE⟩
      · obtain ⟨hgo, hyld⟩ := hJ'.1 x hxi
        refine .inr ⟨hgo, _, fun σ2 H2 n2 => ⟨m', hm, n2⟩, fun v H2 y => ?_⟩
        obtain ⟨ex2, S2, r2⟩ := hyld v H2 y
        have w4 : Wn eo X.K fa (Wall W σ.length) σ' φ' hid H' ((asT (callF T.tbl k) t x ρ >>= fun ρ' => evS (callF T.tbl k) b ρ' >>= loopF (runL body src (i + 1) m')) st) (FlC X.K fa hid σ.length D) := by
          have e1 : (body x ρ >>= loopF (runL body src (i + 1) m')) st = (asT (callF T.tbl k) t x ρ >>= fun ρ' => evS (callF T.tbl k) b ρ' >>= loopF (runL body src (i + 1) m')) st := bind_assoc (asT (callF T.tbl k) t x ρ) _ _ st
          rw [← e1]; exact w3
        have w5 : Wn eo X.K fa (Wall W σ.length) σ' φ' hid H2 ((asT (callF T.tbl k) t x ρ >>= fun ρ' => evS (callF T.tbl k) b ρ' >>= loopF (runL body src (i + 1) m')) st) (FlC X.K fa hid σ.length D) := by
          generalize (asT (callF T.tbl k) t x ρ >>= fun ρ' => evS (callF T.tbl k) b ρ' >>= loopF (runL body src (i + 1) m')) st = r at w4
          cases r with
          | ok a st' => exact fun H3 φ3 e3 s3 => w4 H3 φ3 (ex2.trans e3) s3
          | exc e st' => exact fun c dd H3 φ3 e3 s3 z => w4 c dd H3 φ3 (ex2.trans e3) s3 z
          | stuck => exact w4
        rw [← hl] at w5
        refine ⟨ρ, st, φ', hid, x, hE.ext ex2, S2, r2, w5.step fun ρ' st3 φ3 H3 ex3 S3 w6 σ3 hl3 hE3 => ?_⟩
        have hl3' : σ3.length = σ.length := hl3.trans hl
        rw [hl, ← hl3'] at w6
        refine ⟨ρ', st3, φ3, hid, hE3, S3, (Wn.slots w6).step fun f st4 φ4 H4 ex4 S4 w7 => ?_⟩
        have ex5 := ((ex.trans ex2).trans ex3).trans ex4
        cases f with
        | nx ρ4 => exact fun σ4 hl4 hE4 => ⟨hl4.trans hl3', hf', ρ4, st4, φ4, ex5, hE4, S4, hl3' ▸ Wn.slots w7⟩
        | ct ρ4 => exact fun σ4 hl4 hE4 => ⟨hl4.trans hl3', hf', ρ4, st4, φ4, ex5, hE4, S4, hl3' ▸ Wn.slots w7⟩
        | bk ρ4 => exact fun σ4 hl4 hE4 => (w7.now S4 : FlC X.K fa hid σ3.length D (.nx ρ4) st4 φ4 H4) σ4 hl4 hE4
        | rt d => exact fun v r => (w7.now S4 : FlC X.K fa hid σ3.length D (.rt d) st4 φ4 H4) v r
    · cases h) (fun _ _ => rfl)
theorem sndS_raise {c : Nat} {e : E} : SndS T fa eo k N (.raise_ c e) := SndS.ofS (fun {sc s X W} G tk h => by
    unfold chkS at h
    split at h
    · simp only [Bool.and_eq_true] at h
      obtain ⟨⟨⟨h1, h2⟩, h3⟩, h4⟩ := h
      obtain ⟨C, bmB, B, newId, initId, g1, g2, g3, g4, g5, g6, g7, g8⟩ := G.glb.cls _ _ (of_decide_eq_true h3)
      refine PS.weak (ps_raise G.calm tk (pmk_own g3 g4 g1 g5 (raises_own g6 g7) (G.toGood.gl (of_decide_eq_true h1)) (nm_of h2).1)) fun D σ H q => ?_
      obtain ⟨ρ, st, φ, hid, hE, hS, w⟩ := q
      exact (show Wn eo X.K fa (Wall W σ.length) σ φ hid H (.exc ⟨c, _⟩ st) (FlC X.K fa hid σ.length D) from w) (.ref C) none H φ .refl hS ⟨none, g2, fun f q => by cases q⟩ σ rfl
    · cases h) (fun _ _ => rfl)
/-- a written constant's value -/
def rdC (K : PySem.W.Frag) (fa : Nat → Addr) (d : PC.D) : TE := fun _ H Q => ∃ φ hid st, StoreOk K fa st φ hid H ∧ ∀ H' φ', Ext φ H φ' H' → StoreOk K fa st φ' hid H' → ∀ v, Rep K fa φ' hid H' d v → Q v H'
theorem cst_pe {d : PC.D} {e : Expr} {X : Cx} (h : cstD d e = true) : PE X e (rdC X.K fa d) := by
  unfold cstD at h
  split at h
  · rw [Bool.and_eq_true] at h
    have e1 := of_decide_eq_true h.1
    have e2 := of_decide_eq_true h.2
    subst e1 e2
    refine PE.weak (pe_tup (pa_cons pe_str (pa_cons pe_str pa_nil))) fun σ H Q q => ?_
    obtain ⟨φ, hid, st, S, w⟩ := q
    exact ⟨by show 2 ≤ sizeLine; decide, fun p hp => w _ φ (.new hp) (S.new hp) _ (.newTup S hp (.cons (.str _) (.cons (.str _) .nil)))⟩
  · have e1 := of_decide_eq_true h
    subst e1
    refine PE.weak pe_str fun σ H Q q => ?_
    obtain ⟨φ, hid, st, S, w⟩ := q
    exact w _ φ .refl S _ (.str _)
  · cases h
theorem GoodS.tr (G : GoodS T fa eo k N sc X) {pn : List (Addr × Obj)} {xe : Value → Shared → Prop} (po : PassesOwn (model X.prog X.w) X.A X.env xe) : GoodS T fa eo k N sc (X.tr pn xe) where
  hN := G.hN
  nd := G.nd
  sc := G.sc
  calm := G.calm
  room := G.room
  glb := G.glb
  fns := G.fns
  po := po
  cw := G.cw
  stk := G.stk
  fr := G.fr
  kd := G.kd
theorem sndS_try {b : S} {c : Nat} {r : PC.D} (ib : SndS T fa eo k N b) : SndS T fa eo k N (.try_ b c r) := SndS.ofS (fun {sc s X W} G tk h => by
    unfold chkS at h
    split at h
    · rename_i b' x p1 r' p2 p3 hds p4
      simp only [Bool.and_eq_true] at h
      obtain ⟨⟨⟨⟨h1, h2⟩, h3⟩, h4⟩, h5⟩ := h
      obtain ⟨C, bmB, B, newId, initId, g1, g2, g3, g4, g5, g6, g7, g8⟩ := G.glb.cls _ _ (of_decide_eq_true h3)
      refine PS.weak (ps_try_first (c := .ref C) (tb := fun W => rdS (callF T.tbl k) eo X.K fa W b) (ts := tRet (rdC X.K fa r)) G.stk G.fr ⟨G.toGood.gl (of_decide_eq_true h1), (nm_of h2).1, .inl g1⟩
        (fun W pn xe tk po => ib.all (G.tr po) tk h5) (fun a oe pn => pss_one (ps_ret (cst_pe h4)))) fun D σ H q => ?_
      obtain ⟨ρ, st, φ, hid, hE, hS, w⟩ := q
      refine ⟨ρ, st, φ, hid, hE, hS, ?_⟩
      have w' : Wn eo X.K fa (Wall W σ.length) σ φ hid H (match evS (callF T.tbl k) b ρ st with
        | .ok f st' => .ok f st'
        | .stuck => .stuck
        | .exc e st' => if e.cls = c then .ok (.rt r) st' else .stuck) (FlC X.K fa hid σ.length D) := w
      cases hq : evS (callF T.tbl k) b ρ st with
      | ok f st' => rw [hq] at w'; exact w'
      | stuck => rw [hq] at w'; exact w'.elim
      | exc e st' =>
        rw [hq] at w'
        dsimp only at w'
        split at w'
        · rename_i he
          intro cls dd H' φ' ex S' hx σ' hl
          obtain ⟨of, hof, _⟩ := hx
          rw [he, g2] at hof
          cases hof
          exact ⟨g8, φ', hid, st', S', fun H2 φ2 ex2 S2 v rv => w' H2 φ2 (ex.trans ex2) S2 v rv⟩
        · exact w'.elim
    · cases h) (fun _ _ => rfl)
/-- EVERY STATEMENT -/
theorem sndS : ∀ s : S, SndS T fa eo k N s := by
  intro s
  induction s with
  | skip => exact sndS_skip
  | seq a b ia ib => exact sndS_seq ia ib
  | ex e => exact sndS_ex
  | ret e => exact sndS_ret
  | retN => exact sndS_retN
  | asg t e => exact sndS_asg
  | aug i b e => exact sndS_aug
  | ite c a b ia ib => exact sndS_ite ia ib
  | while_ c b ib => exact sndS_while ib
  | for_ t it b ib => exact sndS_for ib
  | brk => exact sndS_brk
  | cont => exact sndS_cont
  | raise_ c e => exact sndS_raise
  | try_ b c r ib => exact sndS_try ib
  | never => exact SndS.ofS (fun _ _ q => Bool.noConfusion (show false = true from q)) (fun _ _ => rfl)
end
end PC
set_option Elab.async false
set_option linter.all false
set_option maxRecDepth 100000
set_option maxHeartbeats 4000000
namespace PC
open PySem PySem.Spec L2
section
variable {K : PySem.W.Frag} {fa : Nat → Addr} {φ φ' hid : List Addr} {H H' : Hp} {st st' : Store}
theorem pre_mem {a : Addr} (p : φ <+: φ') (h : a ∉ φ') : a ∉ φ := fun z => h (p.subset z)
theorem pre_get {n : Nat} {a : Addr} (p : φ <+: φ') (hn : n < φ.length) (h : φ'[n]? = some a) : φ[n]? = some a := by
  obtain ⟨l, rfl⟩ := p
  rw [List.getElem?_append_left hn] at h
  exact h
theorem TupAt.down {a : Addr} {vs : List V} (p : φ <+: φ') (t : TupAt K φ' hid H a vs) : TupAt K φ hid H a vs := by
  rcases t with ⟨r, n, m⟩ | t
  · exact .inl ⟨r, pre_mem p n, m⟩
  · exact .inr t
theorem LokAt.down {a : Addr} {vs : List V} (p : φ <+: φ') (t : LokAt K φ' hid H a vs) : LokAt K φ hid H a vs := by
  rcases t with ⟨o, r, n, m⟩ | t
  · exact .inl ⟨o, r, pre_mem p n, m⟩
  · exact .inr t
mutual
/-- elder cells alone -/
theorem Rep.down (p : φ <+: φ') : ∀ {d : D} {v : V}, Rep K fa φ' hid H d v → below φ.length d = true → Rep K fa φ hid H d v
  | _, _, .non, _ => .non
  | _, _, .bl b, _ => .bl b
  | _, _, .int i, _ => .int i
  | _, _, .str s, _ => .str s
  | .tup xs, _, .tup t r, h => .tup (t.down p) (Reps.down p r (show belows φ.length xs = true from h))
  | .lst xs, _, .lst t n m r, h => .lst t (pre_mem p n) m (Reps.down p r (show belows φ.length xs = true from h))
  | _, _, .lok t r, h => Bool.noConfusion (show false = true from h)
  | .ref n, _, .ref q, h => .ref (pre_get p (of_decide_eq_true (show decide (n < φ.length) = true from h)) q)
  | _, _, .fn i, _ => .fn i
theorem Reps.down (p : φ <+: φ') : ∀ {xs : List D} {vs : List V}, Reps K fa φ' hid H xs vs → belows φ.length xs = true → Reps K fa φ hid H xs vs
  | _, _, .nil, _ => .nil
  | x :: xs, _, .cons q t, h => by
    have h' : (below φ.length x && belows φ.length xs) = true := h
    rw [Bool.and_eq_true] at h'
    exact .cons (Rep.down p q h'.1) (Reps.down p t h'.2)
end
mutual
/-- what stood before -/
theorem Rep.back (p : φ <+: φ') {hid0 : List Addr} {H0 : Hp} : ∀ {d : D} {v v0 : V}, Rep K fa φ' hid H d v → Rep K fa φ hid0 H0 d v0 → Rep K fa φ hid H d v
  | _, _, _, .non, _ => .non
  | _, _, _, .bl b, _ => .bl b
  | _, _, _, .int i, _ => .int i
  | _, _, _, .str s, _ => .str s
  | _, _, _, .tup t r, .tup _ r0 => .tup (t.down p) (Reps.back p r r0)
  | _, _, _, .lst t n m r, .lst _ _ _ r0 => .lst t (pre_mem p n) m (Reps.back p r r0)
  | _, _, _, .lok t r, .lok _ r0 => .lok (t.down p) (Reps.back p r r0)
  | _, _, _, .ref q, .ref q0 => .ref (pre_get p (List.getElem?_eq_some_iff.mp q0).1 q)
  | _, _, _, .fn i, _ => .fn i
theorem Reps.back (p : φ <+: φ') {hid0 : List Addr} {H0 : Hp} : ∀ {xs : List D} {vs vs0 : List V}, Reps K fa φ' hid H xs vs → Reps K fa φ hid0 H0 xs vs0 → Reps K fa φ hid H xs vs
  | _, _, _, .nil, _ => .nil
  | _, _, _, .cons q t, .cons q0 t0 => .cons (Rep.back p q q0) (Reps.back p t t0)
end
theorem oldOk_get : ∀ {base : Nat} {st st' : Store} {n : Nat} {ys : List D}, oldOk base st st' = true → n < st.length → st'[n]? = some (.lst ys) → st[n]? = some (.lst ys) ∨ belows base ys = true
  | base, .lst xs :: r, .lst zs :: r', n, ys, h, hn, hc => by
    have h' : ((sames xs zs || belows base zs) && oldOk base r r') = true := h
    rw [Bool.and_eq_true, Bool.or_eq_true] at h'
    cases n with
    | zero =>
      have hc : some (Cell.lst zs) = some (Cell.lst ys) := hc
      cases hc
      rcases h'.1 with q | q
      · exact .inl (by rw [eq_of_sames _ _ q]; rfl)
      · exact .inr q
    | succ n => exact oldOk_get (n := n) h'.2 (by simpa using hn) hc
  | _, [], _, n, _, _, hn, _ => by simp at hn
  | _, _ :: _, [], _, _, h, _, _ => nomatch h
theorem oldOk_len : ∀ {base : Nat} {st st' : Store}, oldOk base st st' = true → st.length ≤ st'.length
  | base, .lst xs :: r, .lst zs :: r', h => by
    have h' : ((sames xs zs || belows base zs) && oldOk base r r') = true := h
    rw [Bool.and_eq_true] at h'
    exact Nat.succ_le_succ (oldOk_len h'.2)
  | _, [], _, _ => Nat.zero_le _
  | _, _ :: _, [], h => nomatch h
theorem Ext.forget (e : Ext φ H φ' H') : Ext φ H φ H' := ⟨List.prefix_rfl, e.fr, fun _ h => .inl h⟩
theorem StoreOk.forget (S : StoreOk K fa st φ hid H) (S' : StoreOk K fa st' φ' hid H') (p : φ <+: φ') (h : oldOk st.length st st' = true) : StoreOk K fa (st'.take st.length) φ hid H' where
  len := by rw [List.length_take, S.len]; have := oldOk_len h; omega
  nd := S.nd
  off := S.off
  seen := S'.seen
  cell := fun n ys hn => by
    have hlt : n < st.length := by
      have := (List.getElem?_eq_some_iff.mp hn).1
      rw [List.length_take] at this
      omega
    rw [List.getElem?_take_of_lt hlt] at hn
    obtain ⟨a, vs, h1, h2, h3⟩ := S'.cell n ys hn
    refine ⟨a, vs, pre_get p (by rw [S.len]; exact hlt) h1, h2, ?_⟩
    rcases oldOk_get h hlt hn with q | q
    · obtain ⟨_, _, _, _, r⟩ := S.cell n ys q
      exact h3.back p r
    · exact h3.down p (by rw [S.len]; exact q)
mutual
/-- frozen -/
theorem fz_rep (p : φ <+: φ') (S : StoreOk K fa st φ' hid H) : ∀ {kk : Nat} {d d' : D} {v : V}, fz st φ.length kk d = some d' → Rep K fa φ' hid H d v → Rep K fa φ hid H d' v
  | 0, _, _, _, h, _ => nomatch h
  | kk + 1, .non, _, _, h, r => by cases h; cases r; exact .non
  | kk + 1, .bl _, _, _, h, r => by cases h; cases r; exact .bl _
  | kk + 1, .int _, _, _, h, r => by cases h; cases r; exact .int _
  | kk + 1, .str _, _, _, h, r => by cases h; cases r; exact .str _
  | kk + 1, .fn _, _, _, h, r => by cases h; cases r; exact .fn _
  | kk + 1, .lok _, _, _, h, r => nomatch h
  | kk + 1, .tup xs, d', v, h, r => by
    have h' : (fzs st φ.length kk xs).map .tup = some d' := h
    obtain ⟨ys, h1, rfl⟩ := Option.map_eq_some_iff.mp h'
    cases r with
    | tup t rs => exact .tup (t.down p) (fzs_rep p S h1 rs)
  | kk + 1, .lst xs, d', v, h, r => by
    have h' : (fzs st φ.length kk xs).map .lst = some d' := h
    obtain ⟨ys, h1, rfl⟩ := Option.map_eq_some_iff.mp h'
    cases r with
    | lst t n m rs => exact .lst t (pre_mem p n) m (fzs_rep p S h1 rs)
  | kk + 1, .ref n, d', v, h, r => by
    have h' : (if n < φ.length then some (D.ref n) else match st[n]? with
      | some (.lst xs) => (fzs st φ.length kk xs).map .lst
      | none => none) = some d' := h
    cases r with
    | @ref n a hn =>
      by_cases hlt : n < φ.length
      · rw [if_pos hlt] at h'
        cases h'
        exact .ref (pre_get p hlt hn)
      · rw [if_neg hlt] at h'
        cases hc : st[n]? with
        | none => rw [hc] at h'; cases h'
        | some c =>
          cases c with
          | lst ys =>
            rw [hc] at h'
            obtain ⟨zs, h1, rfl⟩ := Option.map_eq_some_iff.mp h'
            obtain ⟨b, vs, g1, g2, g3⟩ := S.cell n ys hc
            rw [hn] at g1; cases g1
            refine .lst g2 (fun z => ?_) (S.off _ (List.mem_of_getElem? hn)) (fzs_rep p S h1 g3)
            obtain ⟨m, hm⟩ := List.getElem?_of_mem z
            obtain ⟨l, hl⟩ := p
            have hml := (List.getElem?_eq_some_iff.mp hm).1
            have hm' : φ'[m]? = some a := by rw [← hl, List.getElem?_append_left hml]; exact hm
            obtain ⟨l1, e1⟩ := List.getElem?_eq_some_iff.mp hn
            obtain ⟨l2, e2⟩ := List.getElem?_eq_some_iff.mp hm'
            have := (List.getElem_inj S.nd).mp (e1.trans e2.symm)
            omega
theorem fzs_rep (p : φ <+: φ') (S : StoreOk K fa st φ' hid H) : ∀ {kk : Nat} {xs ys : List D} {vs : List V}, fzs st φ.length kk xs = some ys → Reps K fa φ' hid H xs vs → Reps K fa φ hid H ys vs
  | kk, [], ys, vs, h, r => by
    have h' : ys = [] := by
      cases kk <;> exact (Option.some.inj h).symm
    cases r; rw [h']; exact .nil
  | 0, _ :: _, _, _, h, _ => nomatch h
  | kk + 1, x :: xs, ys, vs, h, r => by
    have h' : (fz st φ.length kk x).bind (fun y => (fzs st φ.length kk xs).bind fun ys => some (y :: ys)) = some ys := h
    obtain ⟨y, h1, h2⟩ := Option.bind_eq_some_iff.mp h'
    obtain ⟨zs, h3, h4⟩ := Option.bind_eq_some_iff.mp h2
    cases h4
    cases r with
    | cons q t => exact .cons (fz_rep p S h1 q) (fzs_rep p S h3 t)
end
end
end PC
set_option Elab.async false
set_option linter.all false
set_option maxRecDepth 100000
set_option maxHeartbeats 4000000
namespace PC
open PySem PySem.Spec L2
/-- a def of the text and its term -/
structure DefOk (T : Tab) (K : PySem.W.Frag) (fa : Nat → Addr) (i : Nat) (d : Def) (fd : FuncData) : Prop where
  ex : ∃ (x qual : Str) (params : Arguments) (body : List Stmt) (scope : Scope) (N : List Str), FunD K x qual params body scope [] [] (fa i) fd ∧ FnScope N (T.par i) scope ∧ Binds K fd (T.par i) [] ∧ chkSs T N d.body scope body = true ∧ d.ns = N.length ∧ (T.par i).length = d.np ∧ ∀ (s : Shared) (us : List Value), us.length = (T.par i).length → BindsTo s fd ⟨us, []⟩ ((T.par i).zip us)
mutual
theorem below_mono {n m : Nat} (h : n ≤ m) : ∀ {d : D}, below n d = true → below m d = true
  | .tup xs, q => belows_mono h (xs := xs) q
  | .lst xs, q => belows_mono h (xs := xs) q
  | .ref k, q => decide_eq_true (Nat.lt_of_lt_of_le (of_decide_eq_true (show decide (k < n) = true from q)) h)
  | .lok _, q => Bool.noConfusion (show false = true from q)
  | .non, _ => rfl
  | .bl _, _ => rfl
  | .int _, _ => rfl
  | .str _, _ => rfl
  | .fn _, _ => rfl
theorem belows_mono {n m : Nat} (h : n ≤ m) : ∀ {xs : List D}, belows n xs = true → belows m xs = true
  | [], _ => rfl
  | x :: xs, q => by
    have q' : (below n x && belows n xs) = true := q
    rw [Bool.and_eq_true] at q'
    show (below m x && belows m xs) = true
    rw [below_mono h q'.1, belows_mono h q'.2]; rfl
end
section
variable {T : Tab} {K : PySem.W.Frag} {fa : Nat → Addr} {eo : Nat → Option (Value × Option Str)} {φ hid : List Addr} {H : Hp} {st : Store}
theorem start_env {args : List D} {vs : List V} {N : List Str} {np ns : Nat} (r : Reps K fa φ hid H args vs) (hl : args.length = np) (hn : ns = N.length) (hle : np ≤ ns) : EnvOk K fa (args.map some ++ List.replicate (ns - np) none) (L2.start N vs) φ hid H := by
  have hv := r.length
  refine ⟨by unfold L2.start; rw [List.length_append, List.length_append, List.length_map, List.length_map, List.length_replicate, List.length_replicate]; omega, fun i d hd => ?_⟩
  have hi : i < args.length := by
    by_cases hi : i < args.length
    · exact hi
    · rw [List.getElem?_append_right (by simpa using hi), List.getElem?_replicate] at hd
      split at hd <;> cases hd
  rw [List.getElem?_append_left (by simpa using hi), List.getElem?_map] at hd
  obtain ⟨a, ha, e⟩ := Option.map_eq_some_iff.mp hd
  cases e
  obtain ⟨v, h1, h2⟩ := r.get ha
  refine ⟨v, ?_, h2⟩
  unfold L2.start
  rw [List.getElem?_append_left (by rw [List.length_map]; omega), List.getElem?_map, h1]; rfl
/-- what a call's end is worth -/
theorem leave_wn {keep : Bool} {d : D} {st' : Store} {Q : VK} {W : WX} (S : StoreOk K fa st φ hid H) (w : Wn eo K fa W [] φ hid H (leave keep st d st') (CE K fa hid Q)) : ∀ H' φ', Ext φ H φ' H' → StoreOk K fa st' φ' hid H' → ∀ v, Rep K fa φ' hid H' d v → Q v H' := by
  intro H' φ' ex S' v r
  unfold leave at w
  split at w
  · exact w H' φ' ex S' v r
  · split at w
    · rename_i hl
      split at w
      · rename_i hb
        have hp : φ = φ' := ex.pre.eq_of_length (by rw [S.len, S'.len, hl])
        exact w H' φ' ex S' v r
      · exact w.elim
    · split at w
      · rename_i ho
        split at w
        · rename_i d' hf
          exact w H' φ ex.forget (S.forget S' ex.pre ho) v (fz_rep ex.pre S' (by rw [S.len]; exact hf) r)
        · exact w.elim
      · exact w.elim
theorem leaveX_wn {e : Exc} {st' : Store} {C : D → Store → List Addr → Hp → Prop} {W : WX} (S : StoreOk K fa st φ hid H) (w : Wn eo K fa W [] φ hid H (leaveX st e st') C) : ∀ cls dd H' φ', Ext φ H φ' H' → StoreOk K fa st' φ' hid H' → ExcRel eo K fa e cls dd φ' hid H' → W cls dd [] H' := by
  intro cls dd H' φ' ex S' x
  unfold leaveX at w
  split at w
  · rename_i hb
    split at w
    · exact w cls dd H' φ' ex S' x
    · split at w
      · rename_i ho
        refine w cls dd H' φ ex.forget (S.forget S' ex.pre ho) ?_
        obtain ⟨of, h1, h2⟩ := x
        refine ⟨of, h1, fun f hf => ?_⟩
        obtain ⟨a, v, g1, g2, g3, g4, g5⟩ := h2 f hf
        refine ⟨a, v, g1, pre_mem ex.pre g2, g3, g4, ?_⟩
        have hz : below 0 e.val = true := hb
        exact g5.down ex.pre (below_mono (Nat.zero_le _) hz)
      · exact w.elim
  · exact w.elim
end
section
variable {T : Tab} {K : PySem.W.Frag} {fa : Nat → Addr} {eo : Nat → Option (Value × Option Str)} {P : Program} {w : World} {mg : Str → Option Value} {base : Heap} {fdo : Nat → FuncData}
theorem def_step {k i : Nat} {d : Def} (gl : Glb T K mg fa eo) (hd : T.tbl i = some d) (D0 : DefOk T K fa i d (fdo i)) (le : d.np ≤ d.ns)
    (ih : ∀ i d, T.tbl i = some d → FnOk P w K mg base (L2.CX P w) k (fa i) (fdo i) (T.par i) (spF T fa eo K k i) ∧ Binds K (fdo i) (T.par i) []) :
    FnOk P w K mg base (L2.CX P w) (k + 1) (fa i) (fdo i) (T.par i) (spF T fa eo K (k + 1) i) ∧ Binds K (fdo i) (T.par i) [] := by
  obtain ⟨x, qual, params, body, scope, N, F, S, B, chk, hns, hnp, _⟩ := D0.ex
  refine ⟨F.ok (CX := L2.CX P w) (N := N) S (fun vs H Q E q => ?_) fun cdv A outer s H vs Q E hr hsp => ?_, B⟩
  · obtain ⟨_, _, _, _, h, _⟩ := q
    exact h
  obtain ⟨args, s0, φ, hid, hvl, hS, r, wn⟩ := hsp
  have G : GoodS T fa eo k N scope (cxOf (L2.CX P w) P w K mg base N qual scope (fa i) cdv A outer s H E) :=
    { hN := rfl, nd := S.nd, sc := rfl, calm := rfl, room := hr, glb := gl, fns := fun i d hd => ⟨_, ih i d hd⟩, po := passes_of rfl, cw := fun _ => rfl, stk := rfl, fr := rfl, kd := S.kind }
  have tk : Takes (cxOf (L2.CX P w) P w K mg base N qual scope (fa i) cdv A outer s H E) (fun cls d _ H' => E cls d H') := takes_of rfl rfl rfl rfl
  refine ⟨_, (sndS d.body).all G tk chk, ?_⟩
  have hal : args.length = d.np := callF_len hd wn
  refine ⟨args.map some ++ List.replicate (d.ns - d.np) none, s0, φ, hid, start_env r hal hns le, hS, ?_⟩
  have e1 : callF T.tbl (k + 1) i args s0 = (match evS (callF T.tbl k) d.body (args.map some ++ List.replicate (d.ns - d.np) none) s0 with
        | .ok (.rt r) st' => leave d.keep s0 r st'
        | .ok (.nx _) st' => leave d.keep s0 .non st'
        | .ok _ _ => .stuck
        | .exc e st' => leaveX s0 e st'
        | .stuck => .stuck) := by
    show (match T.tbl i with
      | none => Res.stuck
      | some d => if args.length = d.np then (match evS (callF T.tbl k) d.body (args.map some ++ List.replicate (d.ns - d.np) none) s0 with
        | .ok (.rt r) st' => leave d.keep s0 r st'
        | .ok (.nx _) st' => leave d.keep s0 .non st'
        | .ok _ _ => .stuck
        | .exc e st' => leaveX s0 e st'
        | .stuck => .stuck) else .stuck) = _
    rw [hd]
    exact if_pos hal
  rw [e1] at wn
  cases q : evS (callF T.tbl k) d.body (args.map some ++ List.replicate (d.ns - d.np) none) s0 with
  | ok f st' =>
    rw [q] at wn
    cases f with
    | rt rr => exact leave_wn hS wn
    | nx ρ => exact fun H' φ' ex S' σ hl hE => leave_wn hS wn H' φ' ex S' _ .non
    | bk ρ => exact (show False from wn).elim
    | ct ρ => exact (show False from wn).elim
  | exc e st' =>
    rw [q] at wn
    exact fun cls dd H' φ' ex S' x σ _ => leaveX_wn hS wn cls dd H' φ' ex S' x
  | stuck => rw [q] at wn; exact (show False from wn).elim
/-- ALL DEFS, any depth -/
theorem defs_ok (gl : Glb T K mg fa eo) (h : ∀ i d, T.tbl i = some d → DefOk T K fa i d (fdo i) ∧ d.np ≤ d.ns) : ∀ k i d, T.tbl i = some d → FnOk P w K mg base (L2.CX P w) k (fa i) (fdo i) (T.par i) (spF T fa eo K k i) ∧ Binds K (fdo i) (T.par i) [] := by
  intro k
  induction k with
  | zero =>
    intro i d hd
    obtain ⟨x, qual, params, body, scope, N, F, S, B, chk, hns, hnp, _⟩ := (h i d hd).1.ex
    refine ⟨⟨fun vs H Q E q => ?_, fun A outer s H args us vs Q E hr he hb hv q => ?_⟩, B⟩
    · obtain ⟨_, _, _, _, h, _⟩ := q
      exact h
    · obtain ⟨_, _, _, _, _, _, _, wn⟩ := q
      exact (show False from wn).elim
  | succ k ih =>
    intro i d hd
    exact def_step gl hd (h i d hd).1 (h i d hd).2 ih
end
end PC
set_option Elab.async false
set_option linter.all false
set_option maxRecDepth 100000
set_option maxHeartbeats 4000000
namespace PC
open PySem PySem.Spec L2
/-- a def of the text: its name, its statement, its slots' names, its parameters, its term -/
structure DE where
  name : Str
  st : Stmt
  N : List Str
  par : List Str
  d : Def
/-- a module as the evaluator sees it -/
structure Mo where
  ds : List DE
  cs : List (Str × Int)
  bl : List Str
  cls : List Str
def Mo.tab (p : Mo) : Tab where
  fn := fun x => p.ds.findIdx? (fun e => decide (e.name = x))
  con := fun x => (p.cs.find? (fun q => decide (q.1 = x))).map fun q => .int q.2
  bl := p.bl
  cls := fun x => p.cls.findIdx? (fun y => decide (y = x))
  tbl := fun i => (p.ds[i]?).map (·.d)
  par := fun i => ((p.ds[i]?).map (·.par)).getD []
def clsF (x : Str) : List He.Fa := [.glo x, .exc x, .exm x x true]
def Mo.facts (p : Mo) : List He.Fa := p.ds.map (fun e => .glo e.name) ++ (p.cs.map (fun q => .int q.1 q.2) ++ (p.bl.map .free ++ p.cls.flatMap clsF))
def DE.dd (e : DE) : He.DefD := ⟨(e.name, none), e.name, e.name, defArgs e.st, defBody e.st, defScope e.st, [], []⟩
def Mo.defs (p : Mo) : List He.DefD := p.ds.map DE.dd
structure DE.Ok (T : Tab) (e : DE) : Prop where
  chk : chkSs T e.N e.d.body (defScope e.st) (defBody e.st) = true
  sc : FnScope e.N e.par (defScope e.st)
  ns : e.d.ns = e.N.length
  np : e.par.length = e.d.np
  le : e.d.np ≤ e.d.ns
  bind : ∀ (kV doc pm : Value) (an : Option Addr) (cdv ct : Value) (us : List Value), us.length = e.par.length → bindArgs (PySem.W.fnOf e.name e.name (defArgs e.st) (defBody e.st) (defScope e.st) .none kV doc pm an cdv ct) ⟨us, []⟩ = pure (e.par.zip us)
structure Mo.Ok (p : Mo) : Prop where
  ds : ∀ e ∈ p.ds, e.Ok p.tab
def Mo.fa (p : Mo) (K : PySem.W.Frag) (i : Nat) : Addr := He.ga K (((p.ds[i]?).map (·.name)).getD Str.empty)
def Mo.eo (p : Mo) (K : PySem.W.Frag) (c : Nat) : Option (Value × Option Str) := (p.cls[c]?).map fun x => (.ref (He.ga K x), none)
section
variable {p : Mo} {K : PySem.W.Frag} {h : Heap} {mg : Str → Option Value}
theorem says_fact (c : He.SaysD p.facts p.defs K) {f : He.Fa} (hf : f ∈ p.facts) : f.ok K = true := by
  obtain ⟨i, hi⟩ := List.getElem?_of_mem hf
  exact c.fact i hi
theorem says_def (c : He.SaysD p.facts p.defs K) {i : Nat} {e : DE} (he : p.ds[i]? = some e) : ∃ fd, FunD K e.name e.name (defArgs e.st) (defBody e.st) (defScope e.st) [] [] (p.fa K i) fd := by
  have h1 : p.defs[i]? = some e.dd := by
    show (p.ds.map DE.dd)[i]? = _
    rw [List.getElem?_map, he]; rfl
  obtain ⟨fd, F⟩ := c.def_ i h1
  refine ⟨fd, ?_⟩
  have e1 : p.fa K i = He.ga K e.name := by
    show He.ga K (((p.ds[i]?).map (·.name)).getD Str.empty) = _
    rw [he]; rfl
  rw [e1]
  exact F
theorem find_name {i : Nat} {x : Str} (hf : p.tab.fn x = some i) : ∃ e, p.ds[i]? = some e ∧ e.name = x := by
  have h1 : p.ds.findIdx? (fun e => decide (e.name = x)) = some i := hf
  obtain ⟨hl, h2, _⟩ := List.findIdx?_eq_some_iff_getElem.mp h1
  exact ⟨p.ds[i], List.getElem?_eq_getElem hl, of_decide_eq_true h2⟩
theorem mo_glb (X : K.In h) (G : h.Ns mainGlobals mg) (c : He.SaysD p.facts p.defs K) (ok : p.Ok) : Glb p.tab K mg (p.fa K) (p.eo K) where
  fn := fun x i hf => by
    obtain ⟨e, he, rfl⟩ := find_name hf
    have e1 : p.fa K i = He.ga K e.name := by
      show He.ga K (((p.ds[i]?).map (·.name)).getD Str.empty) = _
      rw [he]; rfl
    rw [e1]
    exact He.glo_ok X G (says_fact c (List.mem_append_left _ (List.mem_map_of_mem (List.mem_of_getElem? he))))
  keep := fun i d hd => by
    obtain ⟨e, he, _⟩ := Option.map_eq_some_iff.mp (show (p.ds[i]?).map (·.d) = some d from hd)
    obtain ⟨fd, F⟩ := says_def c he
    exact F.kp
  np := fun i d hd => by
    obtain ⟨e, he, rfl⟩ := Option.map_eq_some_iff.mp (show (p.ds[i]?).map (·.d) = some d from hd)
    show (((p.ds[i]?).map (·.par)).getD []).length = _
    rw [he]
    exact (ok.ds e (List.mem_of_getElem? he)).np
  con := fun x d hd => by
    obtain ⟨q, hq, rfl⟩ := Option.map_eq_some_iff.mp (show (p.cs.find? (fun q => decide (q.1 = x))).map (fun q => D.int q.2) = some d from hd)
    have hx : q.1 = x := by
      have h2 := List.find?_some hq
      simpa using h2
    subst hx
    obtain ⟨t, ht⟩ := He.int_ok X G (says_fact c (f := .int q.1 q.2) (List.mem_append_right _ (List.mem_append_left _ (List.mem_map.mpr ⟨q, List.mem_of_find?_eq_some hq, rfl⟩))))
    exact ⟨_, .int q.2, ht, ⟨t, rfl⟩, fun _ _ _ => .int _⟩
  bl := fun x hx => He.free_ok X G (says_fact c (List.mem_append_right _ (List.mem_append_right _ (List.mem_append_left _ (List.mem_map_of_mem hx)))))
  cls := fun x n hx => by
    obtain ⟨hl, h2, _⟩ := List.findIdx?_eq_some_iff_getElem.mp (show p.cls.findIdx? (fun y => decide (y = x)) = some n from hx)
    have hm : x ∈ p.cls := by rw [← of_decide_eq_true h2]; exact List.getElem_mem hl
    have sub : ∀ f ∈ clsF x, f.ok K = true := fun f hf => says_fact c (List.mem_append_right _ (List.mem_append_right _ (List.mem_append_right _ (List.mem_flatMap.mpr ⟨x, hm, hf⟩))))
    obtain ⟨q1, q2, q3, q4⟩ := He.exc_ok (sub (.exc x) (by simp [clsF]))
    refine ⟨He.ga K x, He.veBase, _, _, _, He.glo_ok X G (sub (.glo x) (by simp [clsF])), ?_, F.excBase_ValueError, q1, q2, q3, q4, He.exm_ok (sub (.exm x x true) (by simp [clsF]))⟩
    show (p.cls[n]?).map _ = _
    rw [List.getElem?_eq_getElem hl, of_decide_eq_true h2]; rfl
theorem mo_defs (c : He.SaysD p.facts p.defs K) (ok : p.Ok) : ∀ i d, p.tab.tbl i = some d → (∃ fd, DefOk p.tab K (p.fa K) i d fd) ∧ d.np ≤ d.ns := by
  intro i d hd
  obtain ⟨e, he, rfl⟩ := Option.map_eq_some_iff.mp (show (p.ds[i]?).map (·.d) = some d from hd)
  have o := ok.ds e (List.mem_of_getElem? he)
  obtain ⟨fd, F⟩ := says_def c he
  have hp : p.tab.par i = e.par := by
    show ((p.ds[i]?).map (·.par)).getD [] = _
    rw [he]; rfl
  exact ⟨⟨fd, ⟨_, _, _, _, _, e.N, F, by rw [hp]; exact o.sc, by rw [hp]; exact F.bindsN o.bind, o.chk, o.ns, by rw [hp]; exact o.np, by rw [hp]; exact F.bindsA o.bind⟩⟩, o.le⟩
/-- the law's script as data -/
def scriptD (ns : List Int) : D := .lok (ns.map .int)
theorem script_reps {φ hid : List Addr} {H : Hp} {fa : Nat → Addr} : ∀ ns : List Int, Reps K fa φ hid H (ns.map D.int) (ns.map V.int)
  | [] => .nil
  | n :: ns => .cons (.int n) (script_reps ns)
/-- THE LAW'S PROMISE, by the evaluator -/
theorem law_sp {T : Tab} {fa : Nat → Addr} {eo : Nat → Option (Value × Option Str)} {k i : Nat} {x : Str} {ns : List Int} {H : Hp} {a : Addr} (hp : T.par i = [x]) (hl : callF T.tbl k i [scriptD ns] [] = .ok (.bl true) []) (hO : Only H) (hS : SqL K H a (ns.map V.int)) :
    spF T fa eo K k i [.ref a] H (fun v _ => v = .bl true) (fun _ _ _ => False) := by
  refine ⟨[scriptD ns], [], [], [], by rw [hp]; rfl, ⟨rfl, .nil, fun _ z => (nomatch z), fun _ z => (nomatch z), fun n xs hn => (by simp at hn)⟩, .cons (.lok ?_ (script_reps ns)) .nil, ?_⟩
  · rcases hS with (hS | ⟨o, hS⟩) | hS
    · rcases hO a with q | ⟨o, xs, q⟩
      · rw [q] at hS; cases hS
      · rw [q] at hS; cases hS
    · exact .inl ⟨o, hS, by simp, by simp⟩
    · exact .inr hS
  · rw [hl]
    intro H' φ' _ _ v r
    cases r with
    | bl b => rfl
/-- the law, walked -/
theorem mo_walk {l : PySem.W.OpenLaw} {n k i m : Nat} {q : Program} {loose : List Str} {XP : (Str → Option Value) → Heap → Prop} {d : DefRec} {e : DE} {x : Str} (ok : p.Ok) (he : p.ds[i]? = some e) (hpar : e.par = [x]) (hname : d.name = e.name)
    (hn : l.most = some n) (hn2 : n ≤ sizeLine) (hdf : d.params.defaults = []) (hr : Room k callerA)
    (law : ∀ ns : List Int, ns.length ≤ n → (∀ z ∈ ns, Builtin.Int.intBits z ≤ 1048576) → callF p.tab.tbl k i [scriptD ns] [] = .ok (.bl true) []) :
    PySem.W.WalkO q loose XP (He.hookD m p.facts p.defs).says l.row.toRowW d [] (fun f vs => PySem.call f vs) := by
  refine Att.attach_callB hn hdf fun w t₀ t₁ mg mb fA ob pmv cdv docv ad vals zs Gr Y hob hdat hcode hmg hobj hints hlen hbits hgens => ?_
  obtain ⟨K, KX, c⟩ := Y
  have G := mo_glb KX Gr.T.g c ok
  have hpe : p.tab.par i = [x] := by
    show ((p.ds[i]?).map (·.par)).getD [] = _
    rw [he]; exact hpar
  have htb : p.tab.tbl i = some e.d := by
    show (p.ds[i]?).map (·.d) = _
    rw [he]; rfl
  have hfa : fA = p.fa K i := by
    have e1 : p.fa K i = He.ga K e.name := by
      show He.ga K (((p.ds[i]?).map (·.name)).getD Str.empty) = _
      rw [he]; rfl
    have h1 := He.glo_ok KX Gr.T.g (says_fact c (f := .glo e.name) (List.mem_append_left _ (List.mem_map_of_mem (List.mem_of_getElem? he))))
    rw [hname, h1] at hmg
    rw [e1]
    cases hmg; rfl
  subst hfa
  have hall := mo_defs c ok
  obtain ⟨fd0, _⟩ := says_def c he
  have hch : ∀ j, ∃ fd, ∀ d, p.tab.tbl j = some d → DefOk p.tab K (p.fa K) j d fd := fun j => by
    cases hj : p.tab.tbl j with
    | none => exact ⟨fd0, fun d hd => nomatch hd⟩
    | some d =>
      obtain ⟨fd, hfd⟩ := (hall j d hj).1
      exact ⟨fd, fun d' hd' => by cases hd'; exact hfd⟩
  let fdo : Nat → FuncData := fun j => Classical.choose (hch j)
  have hfdo : ∀ j d, p.tab.tbl j = some d → DefOk p.tab K (p.fa K) j d (fdo j) ∧ d.np ≤ d.ns := fun j d hj => ⟨Classical.choose_spec (hch j) d hj, (hall j d hj).2⟩
  have hb : ∀ (s : Shared) (u : Value), BindsTo s (fdo i) ⟨[u], []⟩ [(x, u)] := by
    obtain ⟨_, _, _, _, _, N, F, S, B, chk, hns, hnp, ba⟩ := (hfdo i e.d htb).1.ex
    intro s u
    have q := ba s [u] (by rw [hpe]; rfl)
    rw [hpe] at q
    exact q
  have main := law_call (CX := L2.CX l.prog w) (P := l.prog) (w := w) (sp := spF p.tab (p.fa K) (p.eo K) K k i) KX Gr.T.g Gr.T.b Gr.T.builtins Gr.T.nolimit hgens hobj hints (Nat.le_trans hlen hn2) hr
    (fun base kb nb => by
      have := (defs_ok (P := l.prog) (w := w) (mg := mg) (base := base) G hfdo k i e.d htb).1
      rw [hpe] at this
      exact this) hb (fun H hO hS => law_sp hpe (law zs hlen hbits) hO hS) (fun H u s z => ?_)
  · exact main
  · obtain ⟨_, _, _, _, _, _, _, _, _, _, _, _, q⟩ := z
    exact q
end
end PC
set_option linter.all false
set_option maxRecDepth 100000
namespace PC
open PySem
theorem leave_same {r : D} {st : Store} (h : below st.length r = true) : leave false st r st = .ok r st := by
  unfold leave
  rw [if_neg (by decide), if_pos rfl, if_pos h]
/-- a result, and what comes of it -/
def Res.go {α β : Type} (r : Res α) (f : α → Store → Res β) : Res β := match r with
  | .ok a st => f a st
  | .exc e st => .exc e st
  | .stuck => .stuck
theorem go_ok {α β : Type} {a : α} {st : Store} {f : α → Store → Res β} : (Res.ok a st).go f = f a st := (rfl)
theorem go_exc {α β : Type} {e : Exc} {st : Store} {f : α → Store → Res β} : (Res.exc e st : Res α).go f = .exc e st := (rfl)
theorem go_stuck {α β : Type} {f : α → Store → Res β} : (Res.stuck : Res α).go f = .stuck := (rfl)
def evA (cf : Nat → List D → M D) (es : E) (ρ : Rho) (st : Store) : Res (List D) := (evE cf es ρ st).go fun r st => tupOf r st
section
variable {cf : Nat → List D → M D} {ρ : Rho} {st : Store}
theorem eA_nil : evA cf .nil ρ st = .ok [] st := (rfl)
theorem eA_cons {a b : E} : evA cf (.cons a b) ρ st = (evE cf a ρ st).go fun d st1 => (evA cf b ρ st1).go fun ds st2 => .ok (d :: ds) st2 := by
  show (M.bind (evE cf a ρ) (fun x => M.bind (evE cf b ρ) fun r => M.bind (tupOf r) fun xs => fun st => .ok (D.tup (x :: xs)) st) st).go (fun r st => tupOf r st) = _
  unfold M.bind evA
  cases evE cf a ρ st with
  | ok d st1 =>
    dsimp only [Res.go]
    cases evE cf b ρ st1 with
    | ok r st2 =>
      dsimp only [Res.go]
      first | done | (cases tupOf r st2 <;> rfl)
    | exc _ _ => rfl
    | stuck => rfl
  | exc _ _ => rfl
  | stuck => rfl
theorem bind_go {α β : Type} (m : M α) (f : α → M β) (st : Store) : (m >>= f) st = (m st).go fun a st1 => f a st1 := (rfl)
theorem argsGo {α : Type} {es : E} {f : List D → M α} : ((evE cf es ρ >>= fun r => tupOf r >>= f) : M α) st = (evA cf es ρ st).go fun ds st1 => f ds st1 := by
  show M.bind (evE cf es ρ) (fun r => M.bind (tupOf r) f) st = _
  unfold M.bind evA
  cases evE cf es ρ st with
  | ok r st1 =>
    dsimp only [Res.go]
    first | done | (cases tupOf r st1 <;> rfl)
  | exc _ _ => rfl
  | stuck => rfl
theorem eE_var {i : Nat} : evE cf (.var i) ρ st = getV ρ i st := (rfl)
theorem eE_cst {d : D} : evE cf (.cst d) ρ st = .ok d st := (rfl)
theorem eE_glo {d : D} : evE cf (.glo d) ρ st = .ok d st := (rfl)
theorem eE_fnv {i : Nat} : evE cf (.fnv i) ρ st = .ok (.fn i) st := (rfl)
theorem eE_bi {b : Bi} {es : E} : evE cf (.bi b es) ρ st = (evA cf es ρ st).go fun ds st1 => biV b ds st1 := argsGo
theorem eE_tup {es : E} : evE cf (.tup es) ρ st = (evA cf es ρ st).go fun ds st1 => mkTup ds st1 := argsGo
theorem eE_lst {c : Bool} {es : E} : evE cf (.lst c es) ρ st = (evA cf es ρ st).go fun ds st1 => mkLst c ds st1 := argsGo
theorem eE_call {f : Nat} {es : E} : evE cf (.call f es) ρ st = (evA cf es ρ st).go fun ds st1 => cf f ds st1 := argsGo
theorem eE_and {a b : E} : evE cf (.and_ a b) ρ st = (evE cf a ρ st).go fun x st1 => (asBool x st1).go fun c st2 => if c then evE cf b ρ st2 else .ok (.bl false) st2 := by
  show (M.bind (evE cf a ρ) fun x => M.bind (asBool x) fun c => if c then evE cf b ρ else fun st => .ok (.bl false) st) st = _
  unfold M.bind
  cases evE cf a ρ st with
  | ok x st1 =>
    dsimp only [Res.go]
    cases asBool x st1 with
    | ok c st2 => cases c <;> rfl
    | exc _ _ => rfl
    | stuck => rfl
  | exc _ _ => rfl
  | stuck => rfl
theorem eE_or {a b : E} : evE cf (.or_ a b) ρ st = (evE cf a ρ st).go fun x st1 => (asBool x st1).go fun c st2 => if c then .ok (.bl true) st2 else evE cf b ρ st2 := by
  show (M.bind (evE cf a ρ) fun x => M.bind (asBool x) fun c => if c then (fun st => .ok (.bl true) st) else evE cf b ρ) st = _
  unfold M.bind
  cases evE cf a ρ st with
  | ok x st1 =>
    dsimp only [Res.go]
    cases asBool x st1 with
    | ok c st2 => cases c <;> rfl
    | exc _ _ => rfl
    | stuck => rfl
  | exc _ _ => rfl
  | stuck => rfl
theorem eE_not {a : E} : evE cf (.not_ a) ρ st = (evE cf a ρ st).go fun x st1 => (asBool x st1).go fun c st2 => .ok (.bl (!c)) st2 := (rfl)
theorem eE_ite {c a b : E} : evE cf (.ite c a b) ρ st = (evE cf c ρ st).go fun x st1 => (asBool x st1).go fun c st2 => if c then evE cf a ρ st2 else evE cf b ρ st2 := by
  show (M.bind (evE cf c ρ) fun x => M.bind (asBool x) fun c => if c then evE cf a ρ else evE cf b ρ) st = _
  unfold M.bind
  cases evE cf c ρ st with
  | ok x st1 =>
    dsimp only [Res.go]
    cases asBool x st1 with
    | ok c st2 => cases c <;> rfl
    | exc _ _ => rfl
    | stuck => rfl
  | exc _ _ => rfl
  | stuck => rfl
theorem eE_mth {b : Bi} {o es : E} : evE cf (.mth b o es) ρ st = (evE cf o ρ st).go fun d st1 => (isLst d st1).go fun _ st2 => (evA cf es ρ st2).go fun ds st3 => biV b (d :: ds) st3 := by
  show (M.bind (evE cf o ρ) fun d => M.bind (isLst d) fun _ => M.bind (evE cf es ρ) fun r => M.bind (tupOf r) fun xs => biV b (d :: xs)) st = _
  unfold M.bind evA
  cases evE cf o ρ st with
  | ok x st1 =>
    dsimp only [Res.go]
    cases isLst x st1 with
    | ok c st2 =>
      dsimp only [Res.go]
      cases evE cf es ρ st2 with
      | ok r st3 =>
        dsimp only [Res.go]
        first | done | (cases tupOf r st3 <;> rfl)
      | exc _ _ => rfl
      | stuck => rfl
    | exc _ _ => rfl
    | stuck => rfl
  | exc _ _ => rfl
  | stuck => rfl
theorem asBool_bl {b : Bool} : asBool (.bl b) st = .ok b st := (rfl)
theorem eS_skip : evS cf .skip ρ st = .ok (.nx ρ) st := (rfl)
theorem eS_seq {a b : S} : evS cf (.seq a b) ρ st = (evS cf a ρ st).go fun f st1 => match f with
    | .nx ρ' => evS cf b ρ' st1
    | f => .ok f st1 := by
  show (M.bind (evS cf a ρ) fun f => match f with
    | .nx ρ' => evS cf b ρ'
    | f => fun st => .ok f st) st = _
  unfold M.bind
  cases evS cf a ρ st with
  | ok f st1 => cases f <;> rfl
  | exc _ _ => rfl
  | stuck => rfl
theorem eS_ret {e : E} : evS cf (.ret e) ρ st = (evE cf e ρ st).go fun d st1 => .ok (.rt d) st1 := (rfl)
theorem eS_ex {e : E} : evS cf (.ex e) ρ st = (evE cf e ρ st).go fun _ st1 => .ok (.nx ρ) st1 := (rfl)
theorem eS_asg {t : T} {e : E} : evS cf (.asg t e) ρ st = (evE cf e ρ st).go fun d st1 => (asT cf t d ρ st1).go fun ρ' st2 => .ok (.nx ρ') st2 := (rfl)
theorem eS_ite {c : E} {a b : S} : evS cf (.ite c a b) ρ st = (evE cf c ρ st).go fun x st1 => (asBool x st1).go fun c st2 => if c then evS cf a ρ st2 else evS cf b ρ st2 := by
  show (M.bind (evE cf c ρ) fun x => M.bind (asBool x) fun c => if c then evS cf a ρ else evS cf b ρ) st = _
  unfold M.bind
  cases evE cf c ρ st with
  | ok x st1 =>
    dsimp only [Res.go]
    cases asBool x st1 with
    | ok c st2 => cases c <;> rfl
    | exc _ _ => rfl
    | stuck => rfl
  | exc _ _ => rfl
  | stuck => rfl
theorem eS_raise {c : Nat} {e : E} : evS cf (.raise_ c e) ρ st = (evE cf e ρ st).go fun d st1 => .exc ⟨c, d⟩ st1 := (rfl)
theorem eT_nm {i : Nat} {d : D} : asT cf (.nm i) d ρ st = .ok (ρ.set i (some d)) st := (rfl)
theorem eT_sub {o i : E} {d : D} : asT cf (.sub o i) d ρ st = (evE cf o ρ st).go fun x st1 => (evE cf i ρ st1).go fun y st2 => (setItemV x y d st2).go fun _ st3 => .ok ρ st3 := (rfl)
theorem eT_tup {ts : T} {d : D} : asT cf (.tup ts) d ρ st = (itemsM (lenT ts) d st).go fun xs st1 => asTs cf ts xs ρ st1 := (rfl)
theorem eT_nil : asTs cf .nil [] ρ st = .ok ρ st := (rfl)
theorem eT_cons {t ts : T} {x : D} {xs : List D} : asTs cf (.cons t ts) (x :: xs) ρ st = (asT cf t x ρ st).go fun ρ' st1 => asTs cf ts xs ρ' st1 := (rfl)
theorem eS_while {c : E} {b : S} : evS cf (.while_ c b) ρ st = whileM (fun ρ => evE cf c ρ >>= asBool) (fun ρ => evS cf b ρ) fuelW ρ st := (rfl)
theorem eS_for {t : T} {it : E} {b : S} : evS cf (.for_ t it b) ρ st = (evI cf it ρ st).go fun s st1 => loopSrc (fun d ρ => asT cf t d ρ >>= fun ρ' => evS cf b ρ') s ρ st1 := (rfl)
end
section
variable {st : Store} {c : Bool} {i j : Int} {a b : D}
theorem b_add : biV (.add c) [.int i, .int j] st = .ok (.int (i + j)) st := (rfl)
theorem b_sub : biV .sub [.int i, .int j] st = .ok (.int (i - j)) st := (rfl)
theorem b_mul : biV (.mul c) [.int i, .int j] st = if mulOk i j then .ok (.int (i * j)) st else .stuck := (rfl)
theorem b_fdiv : biV .fdiv [.int i, .int j] st = if divOk j then .ok (.int (i.fdiv j)) st else .stuck := (rfl)
theorem b_mod : biV .mod [.int i, .int j] st = if decide (j ≠ 0) then .ok (.int (i.fmod j)) st else .stuck := (rfl)
theorem b_neg : biV .neg [.int i] st = .ok (.int (-i)) st := (rfl)
theorem b_abs : biV .abs [.int i] st = .ok (.int (absI i)) st := (rfl)
theorem b_lt : biV .lt [.int i, .int j] st = .ok (.bl (decide (i < j))) st := (rfl)
theorem b_le : biV .le [.int i, .int j] st = .ok (.bl (decide (i ≤ j))) st := (rfl)
theorem b_gt : biV .gt [.int i, .int j] st = .ok (.bl (decide (j < i))) st := (rfl)
theorem b_ge : biV .ge [.int i, .int j] st = .ok (.bl (decide (j ≤ i))) st := (rfl)
theorem b_eqI : biV .eq [.int i, .int j] st = .ok (.bl (i == j)) st := (rfl)
theorem b_neI : biV .ne [.int i, .int j] st = .ok (.bl (!(i == j))) st := (rfl)
theorem b_eq : biV .eq [a, b] st = eqV a b st := (rfl)
theorem b_ne : biV .ne [a, b] st = neV a b st := (rfl)
theorem b_idx : biV .idx [a, b] st = idxV a b st := (rfl)
theorem b_len : biV .len [a] st = lenV a st := (rfl)
theorem b_isinst {ts : List Ty} : biV (.isinst ts) [a] st = isinstV ts a st := (rfl)
theorem b_max : biV .max [.int i, .int j] st = .ok (.int (max2 i j)) st := (rfl)
theorem b_min : biV .min [.int i, .int j] st = .ok (.int (min2 i j)) st := (rfl)
theorem b_tuple : biV .tuple [a] st = tupleV a st := (rfl)
theorem b_list : biV (.list c) [a] st = listV c a st := (rfl)
theorem b_all : biV .all [a] st = allV a st := (rfl)
theorem b_any : biV .any [a] st = anyV a st := (rfl)
theorem b_int : biV .int [.int i] st = .ok (.int i) st := (rfl)
theorem b_isN : biV .isN [a] st = .ok (.bl (false ^^ decide (a = .non))) st := (rfl)
theorem b_isNN : biV .isNN [a] st = .ok (.bl (true ^^ decide (a = .non))) st := (rfl)
theorem atI_nat {α : Type} {xs : List α} {n : Nat} {x : α} (h : xs[n]? = some x) : L2.atI xs (n : Int) = some x := by
  have hn := (List.getElem?_eq_some_iff.mp h).1
  unfold L2.atI L2.ixN
  have e1 : ¬ ((n : Int) < 0) := by omega
  simp [e1, hn]
  exact Option.some.inj ((List.getElem?_eq_getElem hn).symm.trans h)
theorem ix_at {xs : List D} {n : Nat} {x : D} (h : xs[n]? = some x) : idxV (.tup xs) (.int (n : Int)) st = .ok x st := by
  show (match seqOf st (.tup xs) with
    | some xs => match L2.atI xs (n : Int) with
      | some x => Res.ok x st
      | none => .stuck
    | none => .stuck) = _
  show (match L2.atI xs (n : Int) with
      | some x => Res.ok x st
      | none => .stuck) = _
  rw [atI_nat h]
theorem ix0 {xs : List D} : idxV (.tup (a :: xs)) (.int 0) st = .ok a st := ix_at (n := 0) rfl
theorem ix1 {xs : List D} : idxV (.tup (a :: b :: xs)) (.int 1) st = .ok b st := ix_at (n := 1) rfl
theorem mkTup1 : mkTup [a] st = .ok (.tup [a]) st := (rfl)
theorem mkTup2 : mkTup [a, b] st = .ok (.tup [a, b]) st := (rfl)
end
theorem gv0 {x : D} {r : Rho} {st : Store} : getV (some x :: r) 0 st = .ok x st := (rfl)
theorem gvS {x : Option D} {r : Rho} {i : Nat} {st : Store} : getV (x :: r) (i + 1) st = getV r i st := (rfl)
/-- a call that ends where it began, with a value of its own -/
theorem call_ret {tbl : Nat → Option Def} {k f : Nat} {d : Def} {args : List D} {st : Store} {r : D} (h : tbl f = some d) (hl : args.length = d.np) (hk : d.keep = false) (hb : evS (callF tbl k) d.body (args.map some ++ List.replicate (d.ns - d.np) none) st = .ok (.rt r) st) (hr : below st.length r = true) : callF tbl (k + 1) f args st = .ok r st := by
  show (match tbl f with
    | none => Res.stuck
    | some d => if args.length = d.np then (match evS (callF tbl k) d.body (args.map some ++ List.replicate (d.ns - d.np) none) st with
        | .ok (.rt r) st' => leave d.keep st r st'
        | .ok (.nx _) st' => leave d.keep st .non st'
        | .ok _ _ => .stuck
        | .exc e st' => leaveX st e st'
        | .stuck => .stuck) else .stuck) = _
  rw [h]
  dsimp only
  rw [if_pos hl, hb]
  dsimp only
  rw [hk]
  exact leave_same hr
/-- one turn of while -/
theorem while_step {test : Rho → M Bool} {body : Rho → M Fl} {m : Nat} {ρ : Rho} {st : Store} : whileM test body (m + 1) ρ st = (test ρ st).go fun c st1 => if c then (body ρ st1).go fun f st2 => (match f with
      | .nx ρ' => whileM test body m ρ'
      | .ct ρ' => whileM test body m ρ'
      | .bk ρ' => fun st => .ok (.nx ρ') st
      | .rt d => fun st => .ok (.rt d) st : M Fl) st2 else .ok (.nx ρ) st1 := by
  show (M.bind (test ρ) fun c => if c then (M.bind (body ρ) fun f => match f with
      | .nx ρ' => whileM test body m ρ'
      | .ct ρ' => whileM test body m ρ'
      | .bk ρ' => fun st => .ok (.nx ρ') st
      | .rt d => fun st => .ok (.rt d) st) else fun st => .ok (.nx ρ) st) st = _
  unfold M.bind
  cases test ρ st with
  | ok c st1 =>
    cases c with
    | false => rfl
    | true => rfl
  | exc _ _ => rfl
  | stuck => rfl
theorem loop_nil {body : D → Rho → M Fl} {ρ : Rho} {st : Store} : loopItems body [] ρ st = .ok (.nx ρ) st := (rfl)
theorem loop_cons {body : D → Rho → M Fl} {x : D} {xs : List D} {ρ : Rho} {st : Store} : loopItems body (x :: xs) ρ st = (body x ρ st).go fun f st2 => (match f with
      | .nx ρ' => loopItems body xs ρ'
      | .ct ρ' => loopItems body xs ρ'
      | .bk ρ' => fun st => .ok (.nx ρ') st
      | .rt d => fun st => .ok (.rt d) st : M Fl) st2 := by
  show (M.bind (body x ρ) fun f => match f with
      | .nx ρ' => loopItems body xs ρ'
      | .ct ρ' => loopItems body xs ρ'
      | .bk ρ' => fun st => .ok (.nx ρ') st
      | .rt d => fun st => .ok (.rt d) st) st = _
  unfold M.bind
  cases body x ρ st with
  | ok f st2 => cases f <;> rfl
  | exc _ _ => rfl
  | stuck => rfl
/-- Euclid's loop, at any two slots; the turns are few -/
theorem euclid {test : Rho → M Bool} {body : Rho → M Fl} {R : Int → Int → Rho} {st : Store} (ht : ∀ a b : Int, test (R a b) st = .ok (!(b == 0)) st)
    (hb : ∀ a b : Int, b ≠ 0 → body (R a b) st = .ok (.nx (R b (a.fmod b))) st) :
    ∀ (m n : Nat) (a b : Nat), b < 2 ^ m → 2 * m < n → whileM test body n (R a b) st = .ok (.nx (R (Nat.gcd a b : Nat) 0)) st := by
  intro m
  have stop : ∀ (n : Nat) (a : Nat), whileM test body (n + 1) (R (a : Int) (0 : Nat)) st = .ok (.nx (R (Nat.gcd a 0 : Nat) 0)) st := by
    intro n a
    rw [while_step, ht, go_ok, Nat.gcd_zero_right]
    rfl
  have turn : ∀ (n : Nat) (a b : Nat), b ≠ 0 → whileM test body (n + 1) (R (a : Int) (b : Int)) st = whileM test body n (R (b : Int) ((a % b : Nat) : Int)) st := by
    intro n a b hb0
    have hbi : (b : Int) ≠ 0 := by omega
    have e1 : (!((b : Int) == 0)) = true := by simpa using hbi
    have e2 : (a : Int).fmod (b : Int) = ((a % b : Nat) : Int) := by
      rw [Int.fmod_eq_emod_of_nonneg _ (Int.natCast_nonneg b), Int.natCast_emod]
    rw [while_step, ht, go_ok, e1, if_pos rfl, hb _ _ hbi, go_ok, e2]
  induction m with
  | zero =>
    intro n a b hlt hn
    have : b = 0 := by simpa using hlt
    subst this
    obtain ⟨n', rfl⟩ : ∃ n', n = n' + 1 := ⟨n - 1, by omega⟩
    exact stop n' a
  | succ m ih =>
    intro n a b hlt hn
    obtain ⟨n', rfl⟩ : ∃ n', n = n' + 2 := ⟨n - 2, by omega⟩
    by_cases hb0 : b = 0
    · subst hb0; exact stop _ a
    · rw [turn _ a b hb0]
      by_cases hr0 : a % b = 0
      · rw [hr0, stop, Nat.gcd_zero_right]
        have : Nat.gcd a b = b := by rw [Nat.gcd_comm, Nat.gcd_rec, hr0, Nat.gcd_zero_left]
        rw [this]
      · rw [turn _ b (a % b) hr0]
        have h1 : a % b < b := Nat.mod_lt _ (Nat.pos_of_ne_zero hb0)
        have h2 : b % (a % b) < 2 ^ m := by
          have h3 : b % (a % b) < a % b := Nat.mod_lt _ (Nat.pos_of_ne_zero hr0)
          have h4 : b % (a % b) ≤ b - a % b := by
            have := Nat.mod_add_div b (a % b)
            have h5 : 1 ≤ b / (a % b) := Nat.div_pos (Nat.le_of_lt h1) (Nat.pos_of_ne_zero hr0)
            have h6 : a % b * 1 ≤ a % b * (b / (a % b)) := Nat.mul_le_mul_left _ h5
            omega
          have h7 : b < 2 * 2 ^ m := by rw [Nat.pow_succ] at hlt; omega
          omega
        rw [ih n' (a % b) (b % (a % b)) h2 (by omega)]
        have e3 : Nat.gcd (a % b) (b % (a % b)) = Nat.gcd a b := by
          rw [Nat.gcd_comm, ← Nat.gcd_rec, ← Nat.gcd_rec, Nat.gcd_comm]
        rw [e3]
/-- one item's work -/
def cBody (cf : Nat → List D → M D) (ρ : Rho) (one : Bool) (tg : List Nat) (cond elt : E) : D → M (Option D) := fun d => do
      let ρ' ← ofOpt (bindC one tg d ρ)
      let x ← evE cf cond ρ'
      let c ← asBool x
      if c then do
        let y ← evE cf elt ρ'
        fun st => .ok (some y) st
      else fun st => .ok none st
theorem comp_filter {f : D → M (Option D)} {g : D → Option D} {st : Store} : ∀ {xs : List D}, (∀ x ∈ xs, f x st = .ok (g x) st) → compItems f xs st = .ok (xs.filterMap g) st
  | [], _ => rfl
  | x :: xs, h => by
    have ih := comp_filter (xs := xs) fun y hy => h y (List.mem_cons_of_mem _ hy)
    have hx := h x List.mem_cons_self
    show (M.bind (f x) fun o => M.bind (compItems f xs) fun r => (match o with
      | some d => fun st => .ok (d :: r) st
      | none => fun st => .ok r st : M (List D))) st = _
    unfold M.bind
    rw [hx]
    dsimp only
    rw [ih, List.filterMap_cons]
    cases g x <;> rfl
theorem comp_run {cf : Nat → List D → M D} {elt it cond : E} {tg : List Nat} {one : Bool} {ρ : Rho} {st : Store} {xs : List D} {g : D → Option D} (hi : evI cf it ρ st = .ok (.items xs) st) (h : ∀ x ∈ xs, cBody cf ρ one tg cond elt x st = .ok (g x) st) (hl : (xs.filterMap g).length ≤ 16777216) :
    evE cf (.comp false elt tg one it cond) ρ st = .ok (.lst (xs.filterMap g)) st := by
  show (M.bind (evI cf it ρ) fun s => M.bind (noExc (compSrc (cBody cf ρ one tg cond elt) s)) fun xs => fun st => if decide (xs.length ≤ 16777216) then mkL false xs st else .stuck) st = _
  unfold M.bind
  rw [hi]
  dsimp only
  have e1 : noExc (compSrc (cBody cf ρ one tg cond elt) (.items xs)) st = .ok (xs.filterMap g) st := by
    unfold noExc
    rw [show compSrc (cBody cf ρ one tg cond elt) (.items xs) st = .ok (xs.filterMap g) st from comp_filter h]
  rw [e1]
  dsimp only
  rw [if_pos (by simpa using hl)]
  rfl
theorem filterMap_some {α β : Type} {g : α → β} {xs : List α} : xs.filterMap (fun x => some (g x)) = xs.map g := by
  induction xs with
  | nil => rfl
  | cons x xs ih => rw [List.filterMap_cons, List.map_cons, ← ih]
/-- every item, no test, one target -/
theorem cBody_one {cf : Nat → List D → M D} {elt : E} {i : Nat} {ρ : Rho} {st : Store} {d y : D} (h : evE cf elt (ρ.set i (some d)) st = .ok y st) : cBody cf ρ true [i] (.cst (.bl true)) elt d st = .ok (some y) st := by
  show (M.bind (evE cf elt (ρ.set i (some d))) fun y => fun st => .ok (some y) st) st = _
  unfold M.bind
  rw [h]
theorem cBody_two {cf : Nat → List D → M D} {elt : E} {i j : Nat} {ρ : Rho} {st : Store} {a b y : D} (h : evE cf elt ((ρ.set i (some a)).set j (some b)) st = .ok y st) : cBody cf ρ false [i, j] (.cst (.bl true)) elt (.tup [a, b]) st = .ok (some y) st := by
  show (M.bind (evE cf elt ((ρ.set i (some a)).set j (some b))) fun y => fun st => .ok (some y) st) st = _
  unfold M.bind
  rw [h]
theorem iE_sq {cf : Nat → List D → M D} {e : E} {ρ : Rho} {st : Store} : evI cf (.sq e) ρ st = (evE cf e ρ st).go fun d st1 => srcOf d st1 := (rfl)
theorem iE_zip {cf : Nat → List D → M D} {a b : E} {ρ : Rho} {st : Store} : evI cf (.zip a b) ρ st = (evE cf a ρ st).go fun x st1 => (evE cf b ρ st1).go fun y st2 => zipSrc x y st2 := (rfl)
theorem iE_rg1 {cf : Nat → List D → M D} {a : E} {ρ : Rho} {st : Store} : evI cf (.rg1 a) ρ st = (evE cf a ρ st).go fun x st1 => (smallI x st1).go fun j st2 => .ok (.items (rgI 0 j.toNat 1)) st2 := (rfl)
theorem comp_maps {ι : Type} {f : D → M (Option D)} {e r : ι → D} {st : Store} : ∀ {zs : List ι}, (∀ z ∈ zs, f (e z) st = .ok (some (r z)) st) → compItems f (zs.map e) st = .ok (zs.map r) st
  | [], _ => rfl
  | z :: zs, h => by
    have ih := comp_maps (zs := zs) fun y hy => h y (List.mem_cons_of_mem _ hy)
    have hx := h z List.mem_cons_self
    show (M.bind (f (e z)) fun o => M.bind (compItems f (zs.map e)) fun r => (match o with
      | some d => fun st => .ok (d :: r) st
      | none => fun st => .ok r st : M (List D))) st = _
    unfold M.bind
    rw [hx]
    dsimp only
    rw [ih]
    rfl
theorem comp_runM {ι : Type} {cf : Nat → List D → M D} {elt it cond : E} {tg : List Nat} {one : Bool} {ρ : Rho} {st : Store} {zs : List ι} {e r : ι → D} (hi : evI cf it ρ st = .ok (.items (zs.map e)) st) (h : ∀ z ∈ zs, cBody cf ρ one tg cond elt (e z) st = .ok (some (r z)) st) (hl : zs.length ≤ 16777216) :
    evE cf (.comp false elt tg one it cond) ρ st = .ok (.lst (zs.map r)) st := by
  show (M.bind (evI cf it ρ) fun s => M.bind (noExc (compSrc (cBody cf ρ one tg cond elt) s)) fun xs => fun st => if decide (xs.length ≤ 16777216) then mkL false xs st else .stuck) st = _
  unfold M.bind
  rw [hi]
  dsimp only
  have e1 : noExc (compSrc (cBody cf ρ one tg cond elt) (.items (zs.map e))) st = .ok (zs.map r) st := by
    unfold noExc
    rw [show compSrc (cBody cf ρ one tg cond elt) (.items (zs.map e)) st = .ok (zs.map r) st from comp_maps h]
  rw [e1]
  dsimp only
  rw [if_pos (by simpa using hl)]
  rfl
theorem call_unf {tbl : Nat → Option Def} {k f : Nat} {d : Def} {args : List D} {st : Store} (h : tbl f = some d) (hl : args.length = d.np) : callF tbl (k + 1) f args st = (match evS (callF tbl k) d.body (args.map some ++ List.replicate (d.ns - d.np) none) st with
        | .ok (.rt r) st' => leave d.keep st r st'
        | .ok (.nx _) st' => leave d.keep st .non st'
        | .ok _ _ => .stuck
        | .exc e st' => leaveX st e st'
        | .stuck => .stuck) := by
  show (match tbl f with
    | none => Res.stuck
    | some d => if args.length = d.np then (match evS (callF tbl k) d.body (args.map some ++ List.replicate (d.ns - d.np) none) st with
        | .ok (.rt r) st' => leave d.keep st r st'
        | .ok (.nx _) st' => leave d.keep st .non st'
        | .ok _ _ => .stuck
        | .exc e st' => leaveX st e st'
        | .stuck => .stuck) else .stuck) = _
  rw [h]
  exact if_pos hl
/-- a call that ends with None -/
theorem call_nx {tbl : Nat → Option Def} {k f : Nat} {d : Def} {args : List D} {st : Store} {ρ : Rho} (h : tbl f = some d) (hl : args.length = d.np) (hk : d.keep = false) (hb : evS (callF tbl k) d.body (args.map some ++ List.replicate (d.ns - d.np) none) st = .ok (.nx ρ) st) : callF tbl (k + 1) f args st = .ok .non st := by
  rw [call_unf h hl, hb]
  dsimp only
  rw [hk]
  exact leave_same rfl
/-- a call that raises, with a word -/
theorem call_exc {tbl : Nat → Option Def} {k f : Nat} {d : Def} {args : List D} {st : Store} {c : Nat} {w : Str} (h : tbl f = some d) (hl : args.length = d.np) (hb : evS (callF tbl k) d.body (args.map some ++ List.replicate (d.ns - d.np) none) st = .exc ⟨c, .str w⟩ st) : callF tbl (k + 1) f args st = .exc ⟨c, .str w⟩ st := by
  rw [call_unf h hl, hb]
  show leaveX st ⟨c, .str w⟩ st = _
  unfold leaveX
  simp [below]
theorem eE_chain {cf : Nat → List D → M D} {ρ : Rho} {st : Store} {o p : Bi} {a b c : E} : evE cf (.chain o p a b c) ρ st = (evE cf a ρ st).go fun x st1 => (evE cf b ρ st1).go fun y st2 => (biV o [x, y] st2).go fun r st3 => (asBool r st3).go fun k st4 => if k then (evE cf c ρ st4).go fun z st5 => biV p [y, z] st5 else .ok (.bl false) st4 := by
  show (M.bind (evE cf a ρ) fun x => M.bind (evE cf b ρ) fun y => M.bind (biV o [x, y]) fun r => M.bind (asBool r) fun k => if k then M.bind (evE cf c ρ) fun z => biV p [y, z] else fun st => .ok (.bl false) st) st = _
  unfold M.bind
  cases evE cf a ρ st with
  | ok x st1 =>
    dsimp only [Res.go]
    cases evE cf b ρ st1 with
    | ok y st2 =>
      dsimp only [Res.go]
      cases biV o [x, y] st2 with
      | ok r st3 =>
        dsimp only [Res.go]
        cases asBool r st3 with
        | ok kk st4 => cases kk <;> rfl
        | exc _ _ => rfl
        | stuck => rfl
      | exc _ _ => rfl
      | stuck => rfl
    | exc _ _ => rfl
    | stuck => rfl
  | exc _ _ => rfl
  | stuck => rfl
theorem eE_sl {cf : Nat → List D → M D} {ρ : Rho} {st : Store} {c : Bool} {a lo hi : E} : evE cf (.sl c true true a lo hi) ρ st = (evE cf a ρ st).go fun d st1 => (evE cf lo ρ st1).go fun y st2 => (intPart y st2).go fun x st3 => (evE cf hi ρ st3).go fun y2 st4 => (intPart y2 st4).go fun z st5 => sliceV c d x z st5 := by
  show (M.bind (evE cf a ρ) fun d => M.bind (M.bind (evE cf lo ρ) intPart) fun x => M.bind (M.bind (evE cf hi ρ) intPart) fun z => sliceV c d x z) st = _
  unfold M.bind
  cases evE cf a ρ st with
  | ok d st1 =>
    dsimp only [Res.go]
    cases evE cf lo ρ st1 with
    | ok y st2 =>
      dsimp only [Res.go]
      cases intPart y st2 with
      | ok x st3 =>
        dsimp only [Res.go]
        cases evE cf hi ρ st3 with
        | ok y2 st4 =>
          dsimp only [Res.go]
          first | done | (cases intPart y2 st4 <;> rfl)
        | exc _ _ => rfl
        | stuck => rfl
      | exc _ _ => rfl
      | stuck => rfl
    | exc _ _ => rfl
    | stuck => rfl
  | exc _ _ => rfl
  | stuck => rfl
theorem intP {i : Int} {st : Store} : intPart (.int i) st = .ok (some i) st := (rfl)
theorem slT {c : Bool} {xs : List D} {lo hi : Option Int} {st : Store} : sliceV c (.tup xs) lo hi st = .ok (.tup (cut xs lo hi)) st := (rfl)
theorem cut_nat {α : Type} {xs : List α} {i n : Nat} {a b : Int} (ha : a = (i : Int)) (hb : b = ((i + n : Nat) : Int)) (h : i + n ≤ xs.length) : cut xs (some a) (some b) = (xs.drop i).take n := by
  subst ha hb
  unfold cut HT.sIx
  have e1 : ¬ ((i : Int) < 0) := by omega
  have e2 : ¬ (((i + n : Nat) : Int) < 0) := by omega
  simp only [e1, e2, if_false, Int.toNat_natCast]
  have e3 : min i xs.length = i := by omega
  have e4 : min (i + n) xs.length = i + n := by omega
  rw [e3, e4]
  congr 1
  omega
end PC
set_option linter.all false
namespace PC
/-- numerator at most N, denominator at most E -/
def Bd (q : Rat) (N E : Nat) : Prop := q.num.natAbs ≤ N ∧ q.den ≤ E
theorem divInt_num_le {n d : Int} (hd : d ≠ 0) : (Rat.divInt n d).num.natAbs ≤ n.natAbs := by
  rw [Rat.num_divInt]
  refine Nat.le_trans (Int.natAbs_ediv_le_natAbs _ _) ?_
  rw [Int.natAbs_mul]
  have h : d.sign.natAbs = 1 := Int.natAbs_sign_of_ne_zero hd
  rw [h, Nat.one_mul]
  exact Nat.le_refl _
theorem divInt_den_le {n d : Int} (hd : d ≠ 0) : (Rat.divInt n d).den ≤ d.natAbs := by
  rw [Rat.den_divInt, if_neg hd]
  exact Nat.div_le_self _ _
theorem Bd.mono {q : Rat} {N E N' E' : Nat} (h : Bd q N E) (h1 : N ≤ N') (h2 : E ≤ E') : Bd q N' E' := ⟨Nat.le_trans h.1 h1, Nat.le_trans h.2 h2⟩
theorem bd_add {p q : Rat} {N E N' E' : Nat} (hp : Bd p N E) (hq : Bd q N' E') : Bd (p + q) (N * E' + N' * E) (E * E') := by
  have h1 : (p.den : Int) ≠ 0 := by have := p.den_nz; omega
  have h2 : (q.den : Int) ≠ 0 := by have := q.den_nz; omega
  have e : p + q = Rat.divInt (p.num * q.den + q.num * p.den) (p.den * q.den) := by
    rw [← Rat.divInt_add_divInt _ _ h1 h2, Rat.num_divInt_den, Rat.num_divInt_den]
  have h0 : ((p.den : Int) * (q.den : Int)) ≠ 0 := Int.mul_ne_zero h1 h2
  rw [e]
  constructor
  · refine Nat.le_trans (divInt_num_le h0) (Nat.le_trans (Int.natAbs_add_le _ _) ?_)
    rw [Int.natAbs_mul, Int.natAbs_mul, Int.natAbs_natCast, Int.natAbs_natCast]
    exact Nat.add_le_add (Nat.mul_le_mul hp.1 hq.2) (Nat.mul_le_mul hq.1 hp.2)
  · refine Nat.le_trans (divInt_den_le h0) ?_
    rw [Int.natAbs_mul, Int.natAbs_natCast, Int.natAbs_natCast]
    exact Nat.mul_le_mul hp.2 hq.2
theorem bd_neg {q : Rat} {N E : Nat} (h : Bd q N E) : Bd (-q) N E := ⟨by rw [Rat.neg_num, Int.natAbs_neg]; exact h.1, by rw [Rat.neg_den]; exact h.2⟩
theorem bd_sub {p q : Rat} {N E N' E' : Nat} (hp : Bd p N E) (hq : Bd q N' E') : Bd (p - q) (N * E' + N' * E) (E * E') := by
  rw [Rat.sub_eq_add_neg]; exact bd_add hp (bd_neg hq)
theorem bd_mul {p q : Rat} {N E N' E' : Nat} (hp : Bd p N E) (hq : Bd q N' E') : Bd (p * q) (N * N') (E * E') := by
  have h1 : (p.den : Int) ≠ 0 := by have := p.den_nz; omega
  have h2 : (q.den : Int) ≠ 0 := by have := q.den_nz; omega
  have e : p * q = Rat.divInt (p.num * q.num) (p.den * q.den) := by
    rw [← Rat.divInt_mul_divInt, Rat.num_divInt_den, Rat.num_divInt_den]
  have h0 : ((p.den : Int) * (q.den : Int)) ≠ 0 := Int.mul_ne_zero h1 h2
  rw [e]
  constructor
  · refine Nat.le_trans (divInt_num_le h0) ?_
    rw [Int.natAbs_mul]
    exact Nat.mul_le_mul hp.1 hq.1
  · refine Nat.le_trans (divInt_den_le h0) ?_
    rw [Int.natAbs_mul, Int.natAbs_natCast, Int.natAbs_natCast]
    exact Nat.mul_le_mul hp.2 hq.2
end PC
set_option linter.all false
namespace PC
theorem pigeon : ∀ (m n : Nat) (f : Nat → Nat), m < n → (∀ i, i < n → f i < m) → ∃ i j, i < j ∧ j < n ∧ f i = f j
  | 0, n, f, h, hf => absurd (hf 0 h) (Nat.not_lt_zero _)
  | m + 1, n, f, h, hf => by
    obtain ⟨n', rfl⟩ : ∃ n', n = n' + 1 := ⟨n - 1, by omega⟩
    by_cases hex : ∃ i, i < n' ∧ f i = f n'
    · obtain ⟨i, hi, e⟩ := hex
      exact ⟨i, n', hi, Nat.lt_succ_self _, e⟩
    · have hne : ∀ i, i < n' → f i ≠ f n' := fun i hi e => hex ⟨i, hi, e⟩
      obtain ⟨i, j, hij, hj, e⟩ := pigeon m n' (fun i => if f n' < f i then f i - 1 else f i) (by omega) (fun i hi => by
        have h1 := hf i (by omega)
        have h2 := hf n' (by omega)
        have h3 := hne i hi
        show (if f n' < f i then f i - 1 else f i) < m
        split <;> omega)
      refine ⟨i, j, hij, by omega, ?_⟩
      have h3 := hne i (by omega)
      have h4 := hne j hj
      have e' : (if f n' < f i then f i - 1 else f i) = (if f n' < f j then f j - 1 else f j) := e
      split at e' <;> split at e' <;> omega
/-- digits to a number -/
def enc (Q : Nat) : Nat → (Nat → Nat) → Nat
  | 0, _ => 0
  | d + 1, t => t 0 + Q * enc Q d (fun r => t (r + 1))
theorem enc_lt {Q : Nat} : ∀ (d : Nat) (t : Nat → Nat), (∀ r, r < d → t r < Q) → enc Q d t < Q ^ d
  | 0, _, _ => by show 0 < Q ^ 0; rw [Nat.pow_zero]; exact Nat.one_pos
  | d + 1, t, h => by
    have ih := enc_lt d (fun r => t (r + 1)) fun r hr => h (r + 1) (by omega)
    have h0 := h 0 (by omega)
    show t 0 + Q * enc Q d (fun r => t (r + 1)) < Q ^ (d + 1)
    rw [Nat.pow_succ, Nat.mul_comm (Q ^ d)]
    calc t 0 + Q * enc Q d (fun r => t (r + 1)) < Q + Q * enc Q d (fun r => t (r + 1)) := Nat.add_lt_add_right h0 _
      _ = Q * (enc Q d (fun r => t (r + 1)) + 1) := by rw [Nat.mul_add, Nat.mul_one, Nat.add_comm]
      _ ≤ Q * Q ^ d := Nat.mul_le_mul_left _ ih
theorem enc_inj {Q : Nat} : ∀ (d : Nat) (t u : Nat → Nat), (∀ r, r < d → t r < Q) → (∀ r, r < d → u r < Q) → enc Q d t = enc Q d u → ∀ r, r < d → t r = u r
  | 0, _, _, _, _, _, r, hr => absurd hr (Nat.not_lt_zero _)
  | d + 1, t, u, ht, hu, e, r, hr => by
    have t0 := ht 0 (by omega)
    have u0 := hu 0 (by omega)
    have e' : t 0 + Q * enc Q d (fun r => t (r + 1)) = u 0 + Q * enc Q d (fun r => u (r + 1)) := e
    have m : t 0 = u 0 := by
      have := congrArg (· % Q) e'
      simpa [Nat.add_mul_mod_self_left, Nat.mod_eq_of_lt t0, Nat.mod_eq_of_lt u0] using this
    have hQ : 0 < Q := by omega
    have e2 : enc Q d (fun r => t (r + 1)) = enc Q d (fun r => u (r + 1)) := by
      rw [m] at e'
      exact Nat.eq_of_mul_eq_mul_left hQ (Nat.add_left_cancel e')
    cases r with
    | zero => exact m
    | succ r => exact enc_inj d _ _ (fun r hr => ht (r + 1) (by omega)) (fun r hr => hu (r + 1) (by omega)) e2 r (by omega)
/-- a number's digits -/
def dig (Q c i : Nat) : Nat := c / Q ^ i % Q
theorem dig_inj {Q : Nat} : ∀ (d c c' : Nat), c < Q ^ d → c' < Q ^ d → (∀ i, i < d → dig Q c i = dig Q c' i) → c = c'
  | 0, c, c', h, h', _ => by rw [Nat.pow_zero] at h h'; omega
  | d + 1, c, c', h, h', e => by
    have hQ : 0 < Q := by
      cases Q with
      | zero => rw [Nat.zero_pow (by omega)] at h; exact absurd h (Nat.not_lt_zero _)
      | succ Q => omega
    have e0 := e 0 (by omega)
    unfold dig at e0
    rw [Nat.pow_zero, Nat.div_one, Nat.div_one] at e0
    have hd : c / Q = c' / Q := dig_inj d (c / Q) (c' / Q) (Nat.div_lt_of_lt_mul (by rw [Nat.mul_comm, ← Nat.pow_succ]; exact h)) (Nat.div_lt_of_lt_mul (by rw [Nat.mul_comm, ← Nat.pow_succ]; exact h')) fun i hi => by
      have := e (i + 1) (by omega)
      unfold dig at this ⊢
      rw [Nat.div_div_eq_div_mul, Nat.div_div_eq_div_mul, Nat.mul_comm Q, ← Nat.pow_succ]
      exact this
    rw [← Nat.div_add_mod c Q, ← Nat.div_add_mod c' Q, hd, e0]
def sumZ : Nat → (Nat → Int) → Int
  | 0, _ => 0
  | n + 1, f => sumZ n f + f n
theorem sumZ_le {L : Nat} : ∀ (n : Nat) (f : Nat → Int), (∀ i, i < n → (f i).natAbs ≤ L) → (sumZ n f).natAbs ≤ n * L
  | 0, _, _ => by show (0 : Int).natAbs ≤ 0 * L; simp
  | n + 1, f, h => by
    have ih := sumZ_le n f fun i hi => h i (by omega)
    have h1 := h n (by omega)
    show (sumZ n f + f n).natAbs ≤ (n + 1) * L
    rw [Nat.add_mul, Nat.one_mul]
    omega
theorem sumZ_sub : ∀ (n : Nat) (f g : Nat → Int), sumZ n f - sumZ n g = sumZ n (fun i => f i - g i)
  | 0, _, _ => rfl
  | n + 1, f, g => by
    show sumZ n f + f n - (sumZ n g + g n) = sumZ n (fun i => f i - g i) + (f n - g n)
    rw [← sumZ_sub n f g]
    omega
theorem sumZ_ext : ∀ (n : Nat) (f g : Nat → Int), (∀ i, i < n → f i = g i) → sumZ n f = sumZ n g
  | 0, _, _, _ => rfl
  | n + 1, f, g, h => by
    show sumZ n f + f n = sumZ n g + g n
    rw [sumZ_ext n f g fun i hi => h i (by omega), h n (by omega)]
/-- more unknowns than equations: a small solution -/
theorem siegel (d B : Nat) (hB : 1 ≤ B) (A : Nat → Nat → Int) (hA : ∀ r i, r < d → i < d + 1 → (A r i).natAbs ≤ B) :
    ∃ z : Nat → Int, (∃ i, i < d + 1 ∧ z i ≠ 0) ∧ (∀ i, i < d + 1 → (z i).natAbs ≤ (2 * (d + 1) * B) ^ d) ∧ ∀ r, r < d → sumZ (d + 1) (fun i => A r i * z i) = 0 := by
  generalize hM : (2 * (d + 1) * B) ^ d = M
  let s : Nat → Nat → Int := fun r c => sumZ (d + 1) fun i => A r i * (dig (M + 1) c i : Nat)
  have hs : ∀ r c, r < d → (s r c).natAbs ≤ (d + 1) * (B * M) := fun r c hr => sumZ_le _ _ fun i hi => by
    rw [Int.natAbs_mul, Int.natAbs_natCast]
    refine Nat.mul_le_mul (hA r i hr hi) ?_
    have : dig (M + 1) c i < M + 1 := Nat.mod_lt _ (Nat.succ_pos _)
    omega
  let t : Nat → Nat → Nat := fun c r => (s r c + ((d + 1) * (B * M) : Nat)).toNat
  have ht : ∀ c r, r < d → t c r < 2 * ((d + 1) * (B * M)) + 1 := fun c r hr => by
    have := hs r c hr
    show (s r c + ((d + 1) * (B * M) : Nat)).toNat < _
    omega
  have hcount : (2 * ((d + 1) * (B * M)) + 1) ^ d < (M + 1) ^ (d + 1) := by
    have h1 : 2 * ((d + 1) * (B * M)) + 1 ≤ (2 * (d + 1) * B) * (M + 1) := by
      have e1 : 2 * ((d + 1) * (B * M)) = (2 * (d + 1) * B) * M := by simp [Nat.mul_assoc]
      have e2 : 1 ≤ 2 * (d + 1) * B := Nat.mul_pos (by omega) hB
      rw [e1, Nat.mul_succ]
      exact Nat.add_le_add_left e2 _
    calc (2 * ((d + 1) * (B * M)) + 1) ^ d ≤ ((2 * (d + 1) * B) * (M + 1)) ^ d := Nat.pow_le_pow_left h1 d
      _ = M * (M + 1) ^ d := by rw [Nat.mul_pow, hM]
      _ < (M + 1) * (M + 1) ^ d := Nat.mul_lt_mul_of_pos_right (Nat.lt_succ_self _) (Nat.pow_pos (Nat.succ_pos _))
      _ = (M + 1) ^ (d + 1) := by rw [Nat.pow_succ, Nat.mul_comm]
  obtain ⟨c, c', hlt, hc', e⟩ := pigeon _ _ (fun c => enc (2 * ((d + 1) * (B * M)) + 1) d (t c)) hcount fun c _ => enc_lt d _ fun r hr => ht c r hr
  have et := enc_inj d _ _ (fun r hr => ht c r hr) (fun r hr => ht c' r hr) e
  refine ⟨fun i => (dig (M + 1) c i : Int) - (dig (M + 1) c' i : Int), ?_, fun i hi => ?_, fun r hr => ?_⟩
  · by_cases hex : ∃ i, i < d + 1 ∧ (dig (M + 1) c i : Int) - (dig (M + 1) c' i : Int) ≠ 0
    · exact hex
    · exfalso
      have : c = c' := dig_inj (d + 1) c c' (by omega) hc' fun i hi => by
        by_cases q : dig (M + 1) c i = dig (M + 1) c' i
        · exact q
        · exact absurd ⟨i, hi, by omega⟩ hex
      omega
  · have h1 : dig (M + 1) c i < M + 1 := Nat.mod_lt _ (Nat.succ_pos _)
    have h2 : dig (M + 1) c' i < M + 1 := Nat.mod_lt _ (Nat.succ_pos _)
    show ((dig (M + 1) c i : Int) - (dig (M + 1) c' i : Int)).natAbs ≤ M
    omega
  · have e1 : s r c = s r c' := by
      have h1 := et r hr
      have h2 := hs r c hr
      have h3 := hs r c' hr
      have h4 : (s r c + ((d + 1) * (B * M) : Nat)).toNat = (s r c' + ((d + 1) * (B * M) : Nat)).toNat := h1
      omega
    have e2 := sumZ_sub (d + 1) (fun i => A r i * (dig (M + 1) c i : Nat)) (fun i => A r i * (dig (M + 1) c' i : Nat))
    have e3 : sumZ (d + 1) (fun i => A r i * ((dig (M + 1) c i : Int) - (dig (M + 1) c' i : Int))) = s r c - s r c' := by
      show _ = sumZ (d + 1) (fun i => A r i * (dig (M + 1) c i : Nat)) - sumZ (d + 1) (fun i => A r i * (dig (M + 1) c' i : Nat))
      rw [e2]
      exact sumZ_ext _ _ _ fun i _ => by rw [Int.mul_sub]
    rw [e3, e1, Int.sub_self]
end PC
set_option linter.all false
namespace PC
def sumR : Nat → (Nat → Rat) → Rat
  | 0, _ => 0
  | n + 1, f => sumR n f + f n
theorem sumR_ext : ∀ (n : Nat) {f g : Nat → Rat}, (∀ i, i < n → f i = g i) → sumR n f = sumR n g
  | 0, _, _, _ => rfl
  | n + 1, f, g, h => by
    show sumR n f + f n = sumR n g + g n
    rw [sumR_ext n fun i hi => h i (by omega), h n (by omega)]
theorem sumR_add : ∀ (n : Nat) (f g : Nat → Rat), sumR n (fun i => f i + g i) = sumR n f + sumR n g
  | 0, _, _ => by show (0 : Rat) = 0 + 0; grind
  | n + 1, f, g => by
    show sumR n (fun i => f i + g i) + (f n + g n) = (sumR n f + f n) + (sumR n g + g n)
    rw [sumR_add n f g]
    grind
theorem sumR_mul : ∀ (n : Nat) (c : Rat) (f : Nat → Rat), sumR n (fun i => c * f i) = c * sumR n f
  | 0, c, _ => by show (0 : Rat) = c * 0; grind
  | n + 1, c, f => by
    show sumR n (fun i => c * f i) + c * f n = c * (sumR n f + f n)
    rw [sumR_mul n c f]
    grind
theorem sumR_zero : ∀ (n : Nat) {f : Nat → Rat}, (∀ i, i < n → f i = 0) → sumR n f = 0
  | 0, _, _ => rfl
  | n + 1, f, h => by
    show sumR n f + f n = 0
    rw [sumR_zero n fun i hi => h i (by omega), h n (by omega)]
    grind
theorem sumR_sub (n : Nat) (f g : Nat → Rat) : sumR n (fun i => f i - g i) = sumR n f - sumR n g := by
  have h : sumR n (fun i => f i - g i) = sumR n (fun i => f i + (-1) * g i) := sumR_ext n fun i _ => by grind
  rw [h, sumR_add, sumR_mul]
  grind
theorem sumR_comm : ∀ (n m : Nat) (f : Nat → Nat → Rat), sumR n (fun i => sumR m (f i)) = sumR m (fun j => sumR n (fun i => f i j))
  | 0, m, f => (sumR_zero m fun _ _ => rfl).symm
  | n + 1, m, f => by
    show sumR n (fun i => sumR m (f i)) + sumR m (f n) = sumR m (fun j => sumR n (fun i => f i j) + f n j)
    rw [sumR_add, sumR_comm n m f]
/-- one place -/
theorem sumR_one : ∀ (n k : Nat) (f : Nat → Rat), k < n → (∀ i, i < n → i ≠ k → f i = 0) → sumR n f = f k
  | 0, k, f, h, _ => absurd h (Nat.not_lt_zero _)
  | n + 1, k, f, h, hz => by
    show sumR n f + f n = f k
    by_cases e : k = n
    · subst e
      rw [sumR_zero k fun i hi => hz i (by omega) (by omega)]
      grind
    · rw [sumR_one n k f (by omega) fun i hi hne => hz i (by omega) hne, hz n (by omega) (fun e' => e e'.symm)]
      grind
theorem sumR_split (n m : Nat) (f : Nat → Rat) : sumR (n + m) f = sumR n f + sumR m (fun i => f (n + i)) := by
  induction m with
  | zero => show sumR n f = sumR n f + 0; grind
  | succ m ih =>
    show sumR (n + m) f + f (n + m) = sumR n f + (sumR m (fun i => f (n + i)) + f (n + m))
    rw [ih]
    grind
theorem sumR_succ (n : Nat) (f : Nat → Rat) : sumR (n + 1) f = sumR n f + f n := rfl
theorem sumR_cast (n : Nat) (f : Nat → Int) : sumR n (fun i => (f i : Rat)) = ((sumZ n f : Int) : Rat) := by
  induction n with
  | zero => rfl
  | succ n ih =>
    show sumR n (fun i => (f i : Rat)) + (f n : Rat) = ((sumZ n f + f n : Int) : Rat)
    rw [ih, Rat.intCast_add]
/-- the first j chosen rows, at the first j chosen columns: no sum of the rows is zero there -/
def Indep (V : Nat → Nat → Rat) (j : Nat) (idx piv : Nat → Nat) : Prop := ∀ d : Nat → Rat, (∀ r, r < j → sumR j (fun t => d t * V (idx t) (piv r)) = 0) → ∀ t, t < j → d t = 0
def ColIndep (V : Nat → Nat → Rat) (j : Nat) (idx piv : Nat → Nat) : Prop := ∀ e : Nat → Rat, (∀ s, s < j → sumR j (fun t => e t * V (idx s) (piv t)) = 0) → ∀ t, t < j → e t = 0
/-- row i less multiples of the first j chosen rows, zero at the first j chosen columns -/
def Red (V : Nat → Nat → Rat) (j : Nat) (idx piv : Nat → Nat) (i : Nat) (u : Nat → Rat) : Prop := ∃ c : Nat → Rat, (∀ col, u col = V i col + sumR j (fun t => c t * V (idx t) col)) ∧ ∀ t, t < j → u (piv t) = 0
def put (f : Nat → Nat) (j i : Nat) : Nat → Nat := fun t => if t = j then i else f t
theorem put_lt {f : Nat → Nat} {j i t : Nat} (h : t < j) : put f j i t = f t := if_neg (by omega)
theorem put_eq {f : Nat → Nat} {j i : Nat} : put f j i j = i := if_pos rfl
theorem indep_zero {V : Nat → Nat → Rat} {idx piv : Nat → Nat} : Indep V 0 idx piv := fun _ _ t h => absurd h (Nat.not_lt_zero _)
theorem colIndep_zero {V : Nat → Nat → Rat} {idx piv : Nat → Nat} : ColIndep V 0 idx piv := fun _ _ t h => absurd h (Nat.not_lt_zero _)
theorem red_zero {V : Nat → Nat → Rat} {idx piv : Nat → Nat} {i : Nat} : Red V 0 idx piv i (V i) := ⟨fun _ => 0, fun col => by show V i col = V i col + 0; grind, fun t h => absurd h (Nat.not_lt_zero _)⟩
section
variable {V : Nat → Nat → Rat} {j : Nat} {idx piv : Nat → Nat} {i a : Nat} {u : Nat → Rat}
theorem indep_put (h : Indep V j idx piv) (hr : Red V j idx piv i u) (ha : u a ≠ 0) : Indep V (j + 1) (put idx j i) (put piv j a) := by
  obtain ⟨c, hc, hz⟩ := hr
  intro d hd
  have e1 : ∀ col, sumR (j + 1) (fun t => d t * V (put idx j i t) col) = sumR j (fun t => (d t - d j * c t) * V (idx t) col) + d j * u col := fun col => by
    rw [sumR_succ, put_eq, hc col, sumR_ext j (g := fun t => d t * V (idx t) col) (fun t ht => by rw [put_lt ht])]
    have : sumR j (fun t => (d t - d j * c t) * V (idx t) col) = sumR j (fun t => d t * V (idx t) col) - d j * sumR j (fun t => c t * V (idx t) col) := by
      rw [← sumR_mul, ← sumR_sub]
      exact sumR_ext j fun t _ => by grind
    rw [this]
    grind
  have h1 : ∀ t, t < j → d t - d j * c t = 0 := h (fun t => d t - d j * c t) fun r hr => by
    have := hd r (by omega)
    rw [e1, put_lt hr, hz r hr] at this
    grind
  have h2 : d j = 0 := by
    have := hd j (by omega)
    rw [e1, put_eq, sumR_zero j fun t ht => by rw [h1 t ht]; grind] at this
    have h3 : d j * u a = 0 := by grind
    rcases Rat.mul_eq_zero.mp h3 with h | h
    · exact h
    · exact absurd h ha
  intro t ht
  by_cases e : t = j
  · rw [e]; exact h2
  · have := h1 t (by omega)
    rw [h2] at this
    grind
theorem colIndep_put (h : ColIndep V j idx piv) (hr : Red V j idx piv i u) (ha : u a ≠ 0) : ColIndep V (j + 1) (put idx j i) (put piv j a) := by
  obtain ⟨c, hc, hz⟩ := hr
  intro e he
  have e1 : ∀ s, s < j → sumR j (fun t => e t * V (idx s) (piv t)) + e j * V (idx s) a = 0 := fun s hs => by
    have := he s (by omega)
    rw [sumR_succ, put_eq, put_lt hs, sumR_ext j (g := fun t => e t * V (idx s) (piv t)) (fun t ht => by rw [put_lt ht])] at this
    exact this
  have e2 : sumR j (fun t => e t * V i (piv t)) + e j * V i a = 0 := by
    have := he j (by omega)
    rw [sumR_succ, put_eq, put_eq, sumR_ext j (g := fun t => e t * V i (piv t)) (fun t ht => by rw [put_lt ht])] at this
    exact this
  have e3 : e j * u a = 0 := by
    have h1 : sumR j (fun t => e t * u (piv t)) = 0 := sumR_zero j fun t ht => by rw [hz t ht]; grind
    have h2 : sumR j (fun t => e t * u (piv t)) = sumR j (fun t => e t * V i (piv t)) + sumR j (fun s => c s * sumR j (fun t => e t * V (idx s) (piv t))) := by
      have : sumR j (fun s => c s * sumR j (fun t => e t * V (idx s) (piv t))) = sumR j (fun t => e t * sumR j (fun s => c s * V (idx s) (piv t))) := by
        rw [show sumR j (fun s => c s * sumR j (fun t => e t * V (idx s) (piv t))) = sumR j (fun s => sumR j (fun t => c s * (e t * V (idx s) (piv t)))) from sumR_ext j fun s _ => (sumR_mul j _ _).symm]
        rw [sumR_comm]
        refine sumR_ext j fun t _ => ?_
        rw [← sumR_mul]
        exact sumR_ext j fun s _ => by grind
      rw [this, ← sumR_add]
      exact sumR_ext j fun t _ => by rw [hc]; grind
    have h3 : sumR j (fun s => c s * sumR j (fun t => e t * V (idx s) (piv t))) = -(e j * sumR j (fun s => c s * V (idx s) a)) := by
      have h4 : sumR j (fun s => c s * sumR j (fun t => e t * V (idx s) (piv t))) = sumR j (fun s => (-e j) * (c s * V (idx s) a)) := sumR_ext j fun s hs => by
        have := e1 s hs
        grind
      rw [h4, sumR_mul]
      grind
    rw [hc a]
    rw [h1, h3] at h2
    grind
  have h2 : e j = 0 := by
    rcases Rat.mul_eq_zero.mp e3 with h | h
    · exact h
    · exact absurd h ha
  have h1 := h e fun s hs => by
    have := e1 s hs
    rw [h2] at this
    grind
  intro t ht
  by_cases e' : t = j
  · rw [e']; exact h2
  · exact h1 t (by omega)
theorem Red.less (hr : Red V j idx piv i u) {v : Nat → Rat} {x : Rat} (hv : Red V j idx piv a v) {p : Nat} (hz : u p - x * v p = 0) : Red V (j + 1) (put idx j a) (put piv j p) i (fun col => u col - x * v col) := by
  obtain ⟨c, hc, h0⟩ := hr
  obtain ⟨d, hd, k0⟩ := hv
  refine ⟨fun t => if t = j then -x else c t - x * d t, fun col => ?_, fun t ht => ?_⟩
  · rw [sumR_succ, put_eq]
    dsimp only
    rw [hc, hd]
    have : sumR j (fun t => (if t = j then -x else c t - x * d t) * V (put idx j a t) col) = sumR j (fun t => c t * V (idx t) col) - x * sumR j (fun t => d t * V (idx t) col) := by
      rw [← sumR_mul, ← sumR_sub]
      exact sumR_ext j fun t ht => by rw [put_lt ht, if_neg (by omega)]; grind
    rw [this, if_pos rfl]
    grind
  · by_cases e : t = j
    · subst e; rw [put_eq]; exact hz
    · rw [put_lt (by omega)]
      show u (piv t) - x * v (piv t) = 0
      rw [h0 t (by omega), k0 t (by omega)]
      grind
end
theorem intCast_ne {z : Int} (h : z ≠ 0) : (z : Rat) ≠ 0 := fun e => h (Rat.intCast_eq_zero_iff.mp e)
theorem sumZ_bound {n M B : Nat} {f g : Nat → Int} (hf : ∀ i, i < n → (f i).natAbs ≤ M) (hg : ∀ i, i < n → (g i).natAbs ≤ B) : (sumZ n fun i => f i * g i).natAbs ≤ n * (M * B) := sumZ_le n _ fun i hi => by
  rw [Int.natAbs_mul]
  exact Nat.mul_le_mul (hf i hi) (hg i hi)
/-- fractions with one denominator, of a size -/
def Cd (D N C : Nat) (u : Nat → Rat) : Prop := ∃ z : Int, z ≠ 0 ∧ z.natAbs ≤ D ∧ ∀ c, c < C → ∃ n : Int, n.natAbs ≤ N ∧ u c = (n : Rat) / (z : Rat)
/-- the numbers that an elimination meets -/
theorem red_bound {V : Nat → Nat → Rat} {A : Nat → Nat → Int} {R : Int} {B C W j : Nat} {idx piv : Nat → Nat} {i : Nat} {u : Nat → Rat} (hR : R ≠ 0) (hB : 1 ≤ B) (hV : ∀ i c, i < W → c < C → V i c = (A i c : Rat) / (R : Rat)) (hA : ∀ i c, i < W → c < C → (A i c).natAbs ≤ B)
    (hi : i < W) (hx : ∀ t, t < j → idx t < W) (hp : ∀ t, t < j → piv t < C) (hI : Indep V j idx piv) (hr : Red V j idx piv i u) : Cd ((2 * (j + 1) * B) ^ j * R.natAbs) ((j + 1) * ((2 * (j + 1) * B) ^ j * B)) C u := by
  have hRq := intCast_ne hR
  obtain ⟨c, hc, h0⟩ := hr
  have hput : ∀ t, t < j + 1 → put idx j i t < W := fun t ht => by
    by_cases e : t = j
    · subst e; rw [put_eq]; exact hi
    · rw [put_lt (by omega)]; exact hx t (by omega)
  obtain ⟨z, ⟨i0, hi0, hz0⟩, hzb, hz⟩ := siegel j B hB (fun r t => A (put idx j i t) (piv r)) fun r t hr ht => hA _ _ (hput t ht) (hp r hr)
  have hsum : ∀ r, r < j → sumR (j + 1) (fun t => (z t : Rat) * V (put idx j i t) (piv r)) = 0 := fun r hr => by
    have h1 : sumR (j + 1) (fun t => (z t : Rat) * V (put idx j i t) (piv r)) = sumR (j + 1) (fun t => (1 / (R : Rat)) * ((A (put idx j i t) (piv r) * z t : Int) : Rat)) := sumR_ext _ fun t ht => by
      rw [hV _ _ (hput t ht) (hp r hr), Rat.intCast_mul]
      grind
    rw [h1, sumR_mul, sumR_cast, hz r hr]
    grind
  have hsum' : ∀ r, r < j → sumR j (fun t => (z t : Rat) * V (idx t) (piv r)) + (z j : Rat) * V i (piv r) = 0 := fun r hr => by
    have := hsum r hr
    rw [sumR_succ, put_eq, sumR_ext j (g := fun t => (z t : Rat) * V (idx t) (piv r)) (fun t ht => by rw [put_lt ht])] at this
    exact this
  have hzj : z j ≠ 0 := by
    intro e
    have hall := hI (fun t => (z t : Rat)) fun r hr => by
      have := hsum' r hr
      rw [e] at this
      have e0 : ((0 : Int) : Rat) = 0 := rfl
      rw [e0] at this
      grind
    by_cases e' : i0 = j
    · exact hz0 (e' ▸ e)
    · exact hz0 (Rat.intCast_eq_zero_iff.mp (hall i0 (by omega)))
  have hzq := intCast_ne hzj
  have hct : ∀ t, t < j → c t = (z t : Rat) / (z j : Rat) := fun t ht => by
    have := hI (fun t => (z t : Rat) / (z j : Rat) - c t) (fun r hr => by
      have h1 : sumR j (fun t => ((z t : Rat) / (z j : Rat) - c t) * V (idx t) (piv r)) = (1 / (z j : Rat)) * sumR j (fun t => (z t : Rat) * V (idx t) (piv r)) - sumR j (fun t => c t * V (idx t) (piv r)) := by
        rw [← sumR_mul, ← sumR_sub]
        exact sumR_ext j fun t _ => by grind
      have h2 := hsum' r hr
      have h3 := h0 r hr
      rw [hc] at h3
      rw [h1]
      generalize sumR j (fun t => (z t : Rat) * V (idx t) (piv r)) = X at *
      generalize sumR j (fun t => c t * V (idx t) (piv r)) = Y at *
      have e1 : X = -((z j : Rat) * V i (piv r)) := by grind
      have e2 : Y = - V i (piv r) := by grind
      rw [e1, e2]
      grind) t ht
    grind
  refine ⟨z j * R, Int.mul_ne_zero hzj hR, ?_, fun col hcol => ⟨sumZ (j + 1) (fun t => A (put idx j i t) col * z t), ?_, ?_⟩⟩
  · rw [Int.natAbs_mul]
    exact Nat.mul_le_mul_right _ (hzb j (by omega))
  · have := sumZ_bound (n := j + 1) (f := fun t => A (put idx j i t) col) (g := z) (M := B) (B := (2 * (j + 1) * B) ^ j) (fun t ht => hA _ _ (hput t ht) hcol) hzb
    rw [Nat.mul_comm B] at this
    exact this
  · rw [hc, ← sumR_cast, Rat.intCast_mul]
    have h1 : sumR (j + 1) (fun t => ((A (put idx j i t) col * z t : Int) : Rat)) = sumR (j + 1) (fun t => (R : Rat) * ((z t : Rat) * V (put idx j i t) col)) := sumR_ext _ fun t ht => by
      rw [hV _ _ (hput t ht) hcol, Rat.intCast_mul]
      grind
    rw [h1, sumR_mul, sumR_succ, put_eq, sumR_ext j (f := fun t => (z t : Rat) * V (put idx j i t) col) (g := fun t => (z j : Rat) * (c t * V (idx t) col)) (fun t ht => by rw [put_lt ht, hct t ht]; grind), sumR_mul]
    generalize sumR j (fun t => c t * V (idx t) col) = X
    grind
/-- a row and a vector -/
def ev (w : Nat) (u y : Nat → Rat) : Rat := sumR (w + 1) fun c => u c * y c
/-- a vector within the first chosen columns from s on, its last item -1 -/
def Sup (w s j : Nat) (piv : Nat → Nat) (y : Nat → Rat) : Prop := y w = -1 ∧ ∀ c, c < w → y c ≠ 0 → ∃ t, s ≤ t ∧ t < j ∧ piv t = c
/-- rows with ones at their columns, zeros at those before -/
def Tri (w j : Nat) (piv : Nat → Nat) (K : Nat → Nat → Rat) : Prop := ∀ s, s < j → piv s < w ∧ K s (piv s) = 1 ∧ ∀ t, t < s → K s (piv t) = 0
theorem ev_set {w p : Nat} {u y : Nat → Rat} {x : Rat} (hp : p < w) : ev w u (fun c => if c = p then x else y c) = ev w u y + u p * (x - y p) := by
  have h : ∀ c, u c * (if c = p then x else y c) = u c * y c + (if c = p then u p * (x - y p) else 0) := fun c => by
    by_cases e : c = p
    · subst e; rw [if_pos rfl, if_pos rfl]; grind
    · rw [if_neg e, if_neg e]; grind
  unfold ev
  rw [sumR_ext (w + 1) (fun c _ => h c), sumR_add, sumR_one (w + 1) p (fun c => if c = p then u p * (x - y p) else 0) (by omega) (fun c _ hc => if_neg hc), if_pos rfl]
theorem tri_ne {w j : Nat} {piv : Nat → Nat} {K : Nat → Nat → Rat} (h : Tri w j piv K) {s t : Nat} (hs : s < j) (hts : t < s) : piv t ≠ piv s := fun e => by
  have h1 := (h s hs).2.2 t hts
  rw [e, (h s hs).2.1] at h1
  exact absurd h1 (by decide)
/-- one step down -/
theorem sol_step {w j s : Nat} {piv : Nat → Nat} {K : Nat → Nat → Rat} (h : Tri w j piv K) (hs : s < j) {y : Nat → Rat} (hy : Sup w (s + 1) j piv y) (h0 : ∀ t, s + 1 ≤ t → t < j → ev w (K t) y = 0) :
    let y' := fun c => if c = piv s then y (piv s) - ev w (K s) y else y c
    Sup w s j piv y' ∧ (∀ t, s ≤ t → t < j → ev w (K t) y' = 0) := by
  obtain ⟨hp, h1, hz⟩ := h s hs
  refine ⟨⟨?_, fun c hc hne => ?_⟩, fun t hst ht => ?_⟩
  · show (if w = piv s then _ else y w) = -1
    rw [if_neg (by omega)]; exact hy.1
  · by_cases e : c = piv s
    · exact ⟨s, Nat.le_refl _, hs, e.symm⟩
    · have : y c ≠ 0 := by
        intro e'
        apply hne
        show (if c = piv s then _ else y c) = 0
        rw [if_neg e, e']
      obtain ⟨t, a, b, q⟩ := hy.2 c hc this
      exact ⟨t, by omega, b, q⟩
  · rw [ev_set hp]
    by_cases e : t = s
    · subst e; rw [h1]; grind
    · rw [h0 t (by omega) ht, (h t ht).2.2 s (by omega)]; grind
theorem sol_exists {w j : Nat} {piv : Nat → Nat} {K : Nat → Nat → Rat} (h : Tri w j piv K) : ∀ m, m ≤ j → ∃ y, Sup w (j - m) j piv y ∧ ∀ t, j - m ≤ t → t < j → ev w (K t) y = 0
  | 0, _ => ⟨fun c => if c = w then -1 else 0, ⟨if_pos rfl, fun c hc hne => absurd (if_neg (by omega)) hne⟩, fun t a b => absurd b (by omega)⟩
  | m + 1, hm => by
    obtain ⟨y, hy, h0⟩ := sol_exists h m (by omega)
    have e : j - m = j - (m + 1) + 1 := by omega
    rw [e] at hy h0
    exact ⟨_, sol_step h (by omega) hy h0⟩
/-- a sum over the chosen columns -/
theorem sum_sup {w s j : Nat} {piv : Nat → Nat} {y : Nat → Rat} (hp : ∀ t, t < j → piv t < w) (hd : ∀ t t', t < j → t' < t → piv t' ≠ piv t) (f : Nat → Rat) : ∀ (y : Nat → Rat), (∀ c, c < w → y c ≠ 0 → ∃ t, t < j ∧ piv t = c) → sumR w (fun c => f c * y c) = sumR j (fun t => f (piv t) * y (piv t)) := by
  induction j with
  | zero =>
    intro y hy
    refine sumR_zero w fun c hc => ?_
    by_cases e : y c = 0
    · rw [e]; grind
    · obtain ⟨t, ht, _⟩ := hy c hc e
      exact absurd ht (Nat.not_lt_zero _)
  | succ j ih =>
    intro y hy
    have h1 := ih (fun t ht => hp t (by omega)) (fun t t' ht ht' => hd t t' (by omega) ht') (fun c => if c = piv j then 0 else y c) (fun c hc hne => by
      by_cases e : c = piv j
      · rw [if_pos e] at hne; exact absurd rfl hne
      · rw [if_neg e] at hne
        obtain ⟨t, ht, q⟩ := hy c hc hne
        exact ⟨t, by
          by_cases e' : t = j
          · exact absurd (e' ▸ q.symm) e
          · omega, q⟩)
    have h2 : sumR w (fun c => f c * y c) = sumR w (fun c => f c * (if c = piv j then 0 else y c)) + sumR w (fun c => if c = piv j then f c * y c else 0) := by
      rw [← sumR_add]
      refine sumR_ext w fun c _ => ?_
      by_cases e : c = piv j
      · rw [if_pos e, if_pos e]; grind
      · rw [if_neg e, if_neg e]; grind
    rw [h2, h1, sumR_one w (piv j) _ (hp j (by omega)) (fun c _ hc => if_neg hc), if_pos rfl, sumR_succ, sumR_ext j (g := fun t => f (piv t) * y (piv t)) (fun t ht => by rw [if_neg (hd j t (by omega) ht)])]
/-- the solution's size -/
theorem sol_bound {V : Nat → Nat → Rat} {A : Nat → Nat → Int} {R : Int} {B w W j : Nat} {idx piv : Nat → Nat} {y : Nat → Rat} (hR : R ≠ 0) (hB : 1 ≤ B) (hV : ∀ i c, i < W → c < w + 1 → V i c = (A i c : Rat) / (R : Rat)) (hA : ∀ i c, i < W → c < w + 1 → (A i c).natAbs ≤ B)
    (hx : ∀ t, t < j → idx t < W) (hp : ∀ t, t < j → piv t < w) (hd : ∀ t t', t < j → t' < t → piv t' ≠ piv t) (hI : ColIndep V j idx piv) (hy : Sup w 0 j piv y) (h0 : ∀ s, s < j → ev w (V (idx s)) y = 0) : Cd ((2 * (j + 1) * B) ^ j) ((2 * (j + 1) * B) ^ j) w y := by
  have hRq := intCast_ne hR
  have hput : ∀ t, t < j + 1 → put piv j w t < w + 1 := fun t ht => by
    by_cases e : t = j
    · subst e; rw [put_eq]; omega
    · rw [put_lt (by omega)]; have := hp t (by omega); omega
  obtain ⟨z, ⟨i0, hi0, hz0⟩, hzb, hz⟩ := siegel j B hB (fun s t => A (idx s) (put piv j w t)) fun s t hs ht => hA _ _ (hx s hs) (hput t ht)
  have hsum : ∀ s, s < j → sumR j (fun t => (z t : Rat) * V (idx s) (piv t)) + (z j : Rat) * V (idx s) w = 0 := fun s hs => by
    have h1 : sumR (j + 1) (fun t => (z t : Rat) * V (idx s) (put piv j w t)) = sumR (j + 1) (fun t => (1 / (R : Rat)) * ((A (idx s) (put piv j w t) * z t : Int) : Rat)) := sumR_ext _ fun t ht => by
      rw [hV _ _ (hx s hs) (hput t ht), Rat.intCast_mul]
      grind
    rw [sumR_mul, sumR_cast, hz s hs, sumR_succ, put_eq, sumR_ext j (g := fun t => (z t : Rat) * V (idx s) (piv t)) (fun t ht => by rw [put_lt ht])] at h1
    rw [h1]
    grind
  have hsy : ∀ s, s < j → sumR j (fun t => y (piv t) * V (idx s) (piv t)) = V (idx s) w := fun s hs => by
    have h1 := h0 s hs
    unfold ev at h1
    rw [sumR_succ, hy.1, sum_sup (s := 0) (y := y) hp hd (V (idx s)) y (fun c hc hne => by
      obtain ⟨t, _, a, b⟩ := hy.2 c hc hne
      exact ⟨t, a, b⟩)] at h1
    rw [sumR_ext j (g := fun t => V (idx s) (piv t) * y (piv t)) (fun t _ => by grind)]
    grind
  have hzj : z j ≠ 0 := by
    intro e
    have hall := hI (fun t => (z t : Rat)) fun s hs => by
      have := hsum s hs
      rw [e] at this
      have e0 : ((0 : Int) : Rat) = 0 := rfl
      rw [e0] at this
      grind
    by_cases e' : i0 = j
    · exact hz0 (e' ▸ e)
    · exact hz0 (Rat.intCast_eq_zero_iff.mp (hall i0 (by omega)))
  have hzq := intCast_ne hzj
  have hyt : ∀ t, t < j → y (piv t) = ((-z t : Int) : Rat) / (z j : Rat) := fun t ht => by
    have := hI (fun t => (z t : Rat) / (z j : Rat) + y (piv t)) (fun s hs => by
      have h1 : sumR j (fun t => ((z t : Rat) / (z j : Rat) + y (piv t)) * V (idx s) (piv t)) = (1 / (z j : Rat)) * sumR j (fun t => (z t : Rat) * V (idx s) (piv t)) + sumR j (fun t => y (piv t) * V (idx s) (piv t)) := by
        rw [← sumR_mul, ← sumR_add]
        exact sumR_ext j fun t _ => by grind
      have h2 := hsum s hs
      rw [h1, hsy s hs]
      generalize sumR j (fun t => (z t : Rat) * V (idx s) (piv t)) = X at *
      have e1 : X = -((z j : Rat) * V (idx s) w) := by grind
      rw [e1]
      grind) t ht
    rw [Rat.intCast_neg]
    grind
  refine ⟨z j, hzj, hzb j (by omega), fun c hc => ?_⟩
  by_cases e : y c = 0
  · exact ⟨0, Nat.zero_le _, by rw [e]; show (0 : Rat) = 0 / _; grind⟩
  · obtain ⟨t, _, ht, rfl⟩ := hy.2 c hc e
    exact ⟨-z t, by rw [Int.natAbs_neg]; exact hzb t (by omega), hyt t ht⟩
end PC
set_option linter.all false
namespace PC
/-- below so many bits -/
def Sz (q : Rat) (b : Nat) : Prop := q.num.natAbs < 2 ^ b ∧ q.den < 2 ^ b
theorem pow_le2 {a b : Nat} (h : a ≤ b) : 2 ^ a ≤ 2 ^ b := Nat.pow_le_pow_right (by decide) h
theorem Sz.mono {q : Rat} {a b : Nat} (h : Sz q a) (hb : a ≤ b) : Sz q b := ⟨Nat.lt_of_lt_of_le h.1 (pow_le2 hb), Nat.lt_of_lt_of_le h.2 (pow_le2 hb)⟩
theorem mul_lt_pow {x y a b : Nat} (hx : x < 2 ^ a) (hy : y < 2 ^ b) : x * y < 2 ^ (a + b) := by
  rw [Nat.pow_add]
  exact Nat.mul_lt_mul'' hx hy
theorem divInt_sz {n d : Int} {b : Nat} (hd : d ≠ 0) (hn : n.natAbs < 2 ^ b) (hdb : d.natAbs < 2 ^ b) : Sz (Rat.divInt n d) b := ⟨Nat.lt_of_le_of_lt (divInt_num_le hd) hn, Nat.lt_of_le_of_lt (divInt_den_le hd) hdb⟩
theorem den_int_ne (q : Rat) : (q.den : Int) ≠ 0 := by have := q.den_nz; omega
theorem Sz.mul {p q : Rat} {a b : Nat} (hp : Sz p a) (hq : Sz q b) : Sz (p * q) (a + b) := by
  have e : p * q = Rat.divInt (p.num * q.num) (p.den * q.den) := by
    rw [← Rat.divInt_mul_divInt, Rat.num_divInt_den, Rat.num_divInt_den]
  rw [e]
  refine divInt_sz (Int.mul_ne_zero (den_int_ne p) (den_int_ne q)) ?_ ?_
  · rw [Int.natAbs_mul]; exact mul_lt_pow hp.1 hq.1
  · rw [Int.natAbs_mul, Int.natAbs_natCast, Int.natAbs_natCast]; exact mul_lt_pow hp.2 hq.2
theorem Sz.add {p q : Rat} {a b : Nat} (hp : Sz p a) (hq : Sz q b) : Sz (p + q) (a + b + 1) := by
  have e : p + q = Rat.divInt (p.num * q.den + q.num * p.den) (p.den * q.den) := by
    rw [← Rat.divInt_add_divInt _ _ (den_int_ne p) (den_int_ne q), Rat.num_divInt_den, Rat.num_divInt_den]
  rw [e]
  refine divInt_sz (Int.mul_ne_zero (den_int_ne p) (den_int_ne q)) ?_ ?_
  · refine Nat.lt_of_le_of_lt (Int.natAbs_add_le _ _) ?_
    rw [Int.natAbs_mul, Int.natAbs_mul, Int.natAbs_natCast, Int.natAbs_natCast]
    have h1 := mul_lt_pow hp.1 hq.2
    have h2 := mul_lt_pow hq.1 hp.2
    rw [Nat.add_comm b a] at h2
    rw [Nat.pow_succ]
    omega
  · rw [Int.natAbs_mul, Int.natAbs_natCast, Int.natAbs_natCast]
    exact Nat.lt_of_lt_of_le (mul_lt_pow hp.2 hq.2) (pow_le2 (by omega))
theorem Sz.neg {p : Rat} {a : Nat} (hp : Sz p a) : Sz (-p) a := ⟨by rw [Rat.neg_num, Int.natAbs_neg]; exact hp.1, hp.2⟩
theorem Sz.sub {p q : Rat} {a b : Nat} (hp : Sz p a) (hq : Sz q b) : Sz (p - q) (a + b + 1) := by
  rw [Rat.sub_eq_add_neg]; exact hp.add hq.neg
theorem Sz.inv {p : Rat} {a : Nat} (hp : Sz p a) (ha : 1 ≤ a) : Sz p⁻¹ a := by
  have h1 : 1 < 2 ^ a := Nat.lt_of_lt_of_le (by decide) (pow_le2 ha)
  refine ⟨?_, ?_⟩
  · rw [Rat.num_inv, Int.natAbs_mul, Int.natAbs_natCast]
    refine Nat.lt_of_le_of_lt (Nat.mul_le_mul_right _ (?_ : _ ≤ 1)) (by rw [Nat.one_mul]; exact hp.2)
    rw [Int.natAbs_sign]
    split <;> omega
  · rw [Rat.den_inv]
    split
    · exact h1
    · exact hp.1
theorem Sz.div {p q : Rat} {a b : Nat} (hp : Sz p a) (hq : Sz q b) (hb : 1 ≤ b) : Sz (p / q) (a + b) := by
  rw [Rat.div_def]; exact hp.mul (hq.inv hb)
theorem frac_sz {n z : Int} {b : Nat} (hz : z ≠ 0) (hn : n.natAbs < 2 ^ b) (hzb : z.natAbs < 2 ^ b) : Sz ((n : Rat) / (z : Rat)) b := by
  rw [← Rat.divInt_eq_div]; exact divInt_sz hz hn hzb
theorem sz0 {b : Nat} (h : 1 ≤ b) : Sz 0 b := ⟨Nat.lt_of_lt_of_le (by decide) (pow_le2 h), Nat.lt_of_lt_of_le (by decide) (pow_le2 h)⟩
theorem Cd.sz {D N C b c : Nat} {u : Nat → Rat} (h : Cd D N C u) (hc : c < C) (hD : D < 2 ^ b) (hN : N < 2 ^ b) : Sz (u c) b := by
  obtain ⟨z, hz, hzD, hn⟩ := h
  obtain ⟨n, hnN, e⟩ := hn c hc
  rw [e]
  exact frac_sz hz (Nat.lt_of_le_of_lt hnN hN) (Nat.lt_of_le_of_lt hzD hD)
/-- a quotient by one of them -/
theorem Cd.quot {D N C p : Nat} {u : Nat → Rat} (h : Cd D N C u) (hp : p < C) (h0 : u p ≠ 0) : Cd N N C fun c => u c / u p := by
  obtain ⟨z, hz, hzD, hn⟩ := h
  obtain ⟨m, hm, em⟩ := hn p hp
  have hzq := intCast_ne hz
  have hm0 : m ≠ 0 := by
    intro e
    rw [e] at em
    apply h0
    rw [em]
    show (0 : Rat) / _ = 0
    grind
  refine ⟨m, hm0, hm, fun c hc => ?_⟩
  obtain ⟨n, hnN, e⟩ := hn c hc
  refine ⟨n, hnN, ?_⟩
  have hmq := intCast_ne hm0
  show u c / u p = _
  rw [e, em]
  grind
theorem Cd.mono {D N D' N' C : Nat} {u : Nat → Rat} (h : Cd D N C u) (hD : D ≤ D') (hN : N ≤ N') : Cd D' N' C u := by
  obtain ⟨z, hz, hzD, hn⟩ := h
  exact ⟨z, hz, Nat.le_trans hzD hD, fun c hc => by
    obtain ⟨n, h1, h2⟩ := hn c hc
    exact ⟨n, Nat.le_trans h1 hN, h2⟩⟩
theorem red_congr {V : Nat → Nat → Rat} {j i : Nat} {idx piv idx' piv' : Nat → Nat} {u : Nat → Rat} (h : Red V j idx piv i u) (h1 : ∀ t, t < j → idx t = idx' t) (h2 : ∀ t, t < j → piv t = piv' t) : Red V j idx' piv' i u := by
  obtain ⟨c, hc, h0⟩ := h
  exact ⟨c, fun col => by rw [hc, sumR_ext j (g := fun t => c t * V (idx' t) col) (fun t ht => by rw [h1 t ht])], fun t ht => by rw [← h2 t ht]; exact h0 t ht⟩
theorem indep_congr {V : Nat → Nat → Rat} {j : Nat} {idx piv idx' piv' : Nat → Nat} (h : Indep V j idx piv) (h1 : ∀ t, t < j → idx t = idx' t) (h2 : ∀ t, t < j → piv t = piv' t) : Indep V j idx' piv' := fun d hd => h d fun r hr => by
  rw [sumR_ext j (g := fun t => d t * V (idx' t) (piv' r)) (fun t ht => by rw [h1 t ht, h2 r hr])]
  exact hd r hr
structure Kept (V : Nat → Nat → Rat) (w i j : Nat) (idx piv : Nat → Nat) (K : Nat → Nat → Rat) : Prop where
  ind : ∀ s, s ≤ j → Indep V s idx piv
  col : ColIndep V j idx piv
  ix : ∀ s, s < j → idx s < i
  pv : ∀ s, s < j → piv s < w
  red : ∀ s, s < j → ∃ u, Red V s idx piv (idx s) u ∧ u (piv s) ≠ 0 ∧ ∀ c, K s c = u c / u (piv s)
  fn : ∀ y, (∀ s, s < j → ev w (K s) y = 0) → ∀ i', i' < i → ev w (V i') y = 0
theorem kept_zero {V : Nat → Nat → Rat} {w : Nat} {idx piv : Nat → Nat} {K : Nat → Nat → Rat} : Kept V w 0 0 idx piv K where
  ind s hs := by
    have : s = 0 := by omega
    subst this
    exact indep_zero
  col := colIndep_zero
  ix s h := absurd h (Nat.not_lt_zero _)
  pv s h := absurd h (Nat.not_lt_zero _)
  red s h := absurd h (Nat.not_lt_zero _)
  fn _ _ i' h := absurd h (Nat.not_lt_zero _)
section
variable {V : Nat → Nat → Rat} {w i j : Nat} {idx piv : Nat → Nat} {K : Nat → Nat → Rat} {u : Nat → Rat}
theorem Kept.tri (h : Kept V w i j idx piv K) : Tri w j piv K := fun s hs => by
  obtain ⟨u, ⟨c, hc, h0⟩, hu, hK⟩ := h.red s hs
  refine ⟨h.pv s hs, ?_, fun t ht => ?_⟩
  · rw [hK]; grind
  · rw [hK, h0 t ht]; grind
theorem Kept.le (h : Kept V w i j idx piv K) : j ≤ w := by
  by_cases hj : j ≤ w
  · exact hj
  · obtain ⟨a, b, hab, hb, e⟩ := pigeon w j piv (by omega) h.pv
    exact absurd e (tri_ne h.tri hb hab)
theorem ev_lin {n : Nat} {c : Nat → Rat} {X : Nat → Nat → Rat} {v y : Nat → Rat} (hu : ∀ col, u col = v col + sumR n (fun t => c t * X t col)) : ev w u y = ev w v y + sumR n (fun t => c t * ev w (X t) y) := by
  unfold ev
  have h1 : sumR n (fun t => c t * sumR (w + 1) (fun col => X t col * y col)) = sumR (w + 1) (fun col => sumR n (fun t => c t * X t col) * y col) := by
    rw [sumR_ext n (g := fun t => sumR (w + 1) (fun col => c t * (X t col * y col))) (fun t _ => (sumR_mul _ _ _).symm), sumR_comm]
    refine sumR_ext _ fun col _ => ?_
    rw [Rat.mul_comm (sumR n _), ← sumR_mul]
    exact sumR_ext n fun t _ => by grind
  rw [h1, ← sumR_add]
  exact sumR_ext _ fun col _ => by rw [hu]; grind
theorem Kept.ev_red (h : Kept V w i j idx piv K) (hr : Red V j idx piv i u) {y : Nat → Rat} (hy : ∀ s, s < j → ev w (K s) y = 0) : ev w u y = ev w (V i) y := by
  obtain ⟨c, hc, _⟩ := hr
  rw [ev_lin hc, sumR_zero j fun t ht => by rw [h.fn y hy _ (h.ix t ht)]; grind]
  grind
theorem Kept.put (h : Kept V w i j idx piv K) (hr : Red V j idx piv i u) {a : Nat} (haw : a < w) (ha : u a ≠ 0) : Kept V w (i + 1) (j + 1) (PC.put idx j i) (PC.put piv j a) (fun s => if s = j then fun c => u c / u a else K s) where
  ind s hs := by
    by_cases e : s = j + 1
    · subst e; exact indep_put (h.ind j (Nat.le_refl _)) hr ha
    · exact indep_congr (h.ind s (by omega)) (fun t ht => (put_lt (by omega)).symm) (fun t ht => (put_lt (by omega)).symm)
  col := colIndep_put h.col hr ha
  ix s hs := by
    by_cases e : s = j
    · subst e; rw [put_eq]; omega
    · rw [put_lt (by omega)]; have := h.ix s (by omega); omega
  pv s hs := by
    by_cases e : s = j
    · subst e; rw [put_eq]; exact haw
    · rw [put_lt (by omega)]; exact h.pv s (by omega)
  red s hs := by
    by_cases e : s = j
    · subst e
      refine ⟨u, ?_, ?_, fun c => ?_⟩
      · rw [put_eq]
        exact red_congr hr (fun t ht => (put_lt ht).symm) (fun t ht => (put_lt ht).symm)
      · rw [put_eq]; exact ha
      · rw [put_eq, if_pos rfl]
    · obtain ⟨v, hv, h1, h2⟩ := h.red s (by omega)
      refine ⟨v, ?_, ?_, fun c => ?_⟩
      · rw [put_lt (by omega)]
        exact red_congr hv (fun t ht => (put_lt (by omega)).symm) (fun t ht => (put_lt (by omega)).symm)
      · rw [put_lt (by omega)]; exact h1
      · rw [put_lt (by omega), if_neg e]; exact h2 c
  fn y hy i' hi' := by
    have h1 : ∀ s, s < j → ev w (K s) y = 0 := fun s hs => by
      have := hy s (by omega)
      rwa [if_neg (by omega)] at this
    by_cases e : i' = i
    · subst e
      rw [← h.ev_red hr h1]
      have h2 := hy j (by omega)
      rw [if_pos rfl] at h2
      have h3 : ev w u y = u a * ev w (fun c => u c / u a) y := by
        unfold ev
        rw [← sumR_mul]
        exact sumR_ext _ fun c _ => by grind
      rw [h3, h2]
      grind
    · exact h.fn y h1 i' (by omega)
theorem Kept.skip (h : Kept V w i j idx piv K) (hr : Red V j idx piv i u) (h0 : ∀ c, c ≤ w → u c = 0) : Kept V w (i + 1) j idx piv K where
  ind := h.ind
  col := h.col
  ix s hs := by have := h.ix s hs; omega
  pv := h.pv
  red := h.red
  fn y hy i' hi' := by
    by_cases e : i' = i
    · subst e
      rw [← h.ev_red hr hy]
      exact sumR_zero _ fun c hc => by rw [h0 c (by omega)]; grind
    · exact h.fn y hy i' (by omega)
/-- a reduction's next step -/
theorem Kept.less (h : Kept V w i j idx piv K) {s a : Nat} (hs : s < j) (hr : Red V s idx piv a u) : Red V (s + 1) idx piv a (fun col => u col - u (piv s) * K s col) := by
  obtain ⟨v, hv, h1, h2⟩ := h.red s hs
  have hx := hr.less (x := u (piv s) / v (piv s)) hv (p := piv s) (by grind)
  have e : (fun col => u col - u (piv s) / v (piv s) * v col) = fun col => u col - u (piv s) * K s col := funext fun col => by rw [h2]; grind
  rw [e] at hx
  exact red_congr hx (fun t ht => by
    by_cases e : t = s
    · subst e; rw [put_eq]
    · rw [put_lt (by omega)]) (fun t ht => by
    by_cases e : t = s
    · subst e; rw [put_eq]
    · rw [put_lt (by omega)])
variable {A : Nat → Nat → Int} {R : Int} {B C W : Nat}
theorem pow_mono {w j B : Nat} (hB : 1 ≤ B) (h : j ≤ w) : (2 * (j + 1) * B) ^ j ≤ (2 * (w + 1) * B) ^ w := by
  refine Nat.le_trans (Nat.pow_le_pow_left (Nat.mul_le_mul_right _ (Nat.mul_le_mul_left _ (by omega : j + 1 ≤ w + 1))) j) (Nat.pow_le_pow_right ?_ h)
  exact Nat.mul_pos (by omega) hB
/-- what has been reduced is small -/
theorem Kept.small (h : Kept V w i j idx piv K) (hR : R ≠ 0) (hB : 1 ≤ B) (hV : ∀ i c, i < W → c < C → V i c = (A i c : Rat) / (R : Rat)) (hA : ∀ i c, i < W → c < C → (A i c).natAbs ≤ B) (hRB : R.natAbs ≤ B) (hwC : w ≤ C) (hiW : i ≤ W)
    {s a : Nat} (hs : s ≤ j) (ha : a < W) (hr : Red V s idx piv a u) : Cd ((w + 1) * ((2 * (w + 1) * B) ^ w * B)) ((w + 1) * ((2 * (w + 1) * B) ^ w * B)) C u := by
  have hle := h.le
  have hp := pow_mono hB (show s ≤ w by omega)
  refine (red_bound hR hB hV hA ha (fun t ht => by have := h.ix t (by omega); omega) (fun t ht => by have := h.pv t (by omega); omega) (h.ind s hs) hr).mono ?_ ?_
  · calc (2 * (s + 1) * B) ^ s * R.natAbs ≤ (2 * (w + 1) * B) ^ w * B := Nat.mul_le_mul hp hRB
      _ = 1 * ((2 * (w + 1) * B) ^ w * B) := (Nat.one_mul _).symm
      _ ≤ _ := Nat.mul_le_mul_right _ (by omega)
  · exact Nat.mul_le_mul (by omega) (Nat.mul_le_mul_right _ hp)
theorem Kept.smallK (h : Kept V w i j idx piv K) (hR : R ≠ 0) (hB : 1 ≤ B) (hV : ∀ i c, i < W → c < C → V i c = (A i c : Rat) / (R : Rat)) (hA : ∀ i c, i < W → c < C → (A i c).natAbs ≤ B) (hRB : R.natAbs ≤ B) (hwC : w ≤ C) (hiW : i ≤ W)
    {s : Nat} (hs : s < j) : Cd ((w + 1) * ((2 * (w + 1) * B) ^ w * B)) ((w + 1) * ((2 * (w + 1) * B) ^ w * B)) C (K s) := by
  obtain ⟨v, hv, h1, h2⟩ := h.red s hs
  have e : K s = fun c => v c / v (piv s) := funext h2
  rw [e]
  exact (h.small hR hB hV hA hRB hwC hiW (Nat.le_of_lt hs) (by have := h.ix s hs; omega) hv).quot (by have := h.pv s hs; omega) h1
end
end PC
set_option linter.all false
set_option maxRecDepth 100000
namespace PC
open PySem
/-- it ends, with that -/
def Wp {α : Type} (r : Res α) (Q : α → Store → Prop) : Prop := ∃ a st, r = .ok a st ∧ Q a st
theorem Wp.ok {α : Type} {a : α} {st : Store} {Q : α → Store → Prop} (h : Q a st) : Wp (.ok a st) Q := ⟨a, st, rfl, h⟩
theorem Wp.go {α β : Type} {r : Res α} {f : α → Store → Res β} {Q : β → Store → Prop} (h : Wp r fun a st => Wp (f a st) Q) : Wp (r.go f) Q := by
  obtain ⟨a, st, e, b, st', e', q⟩ := h
  exact ⟨b, st', by rw [e, go_ok, e'], q⟩
theorem Wp.mono {α : Type} {r : Res α} {Q Q' : α → Store → Prop} (h : Wp r Q) (m : ∀ a st, Q a st → Q' a st) : Wp r Q' := by
  obtain ⟨a, st, e, q⟩ := h
  exact ⟨a, st, e, m a st q⟩
theorem Wp.of {α : Type} {r : Res α} {a : α} {st : Store} {Q : α → Store → Prop} (e : r = .ok a st) (h : Q a st) : Wp r Q := ⟨a, st, e, h⟩
theorem Wp.eq {α : Type} {r : Res α} {a : α} {st : Store} (h : Wp r fun b st' => b = a ∧ st' = st) : r = .ok a st := by
  obtain ⟨b, st', e, rfl, rfl⟩ := h
  exact e
/-- the first part is known -/
theorem Wp.on {α β : Type} {r : Res α} {f : α → Store → Res β} {a : α} {st : Store} {Q : β → Store → Prop} (e : r = .ok a st) (h : Wp (f a st) Q) : Wp (r.go f) Q := by rw [e]; exact h
/-- a part by its own promise -/
theorem Wp.by_ {α β : Type} {r : Res α} {f : α → Store → Res β} {P : α → Store → Prop} {Q : β → Store → Prop} (e : Wp r P) (h : ∀ a st, P a st → Wp (f a st) Q) : Wp (r.go f) Q := Wp.go (e.mono h)
theorem go_assoc {α β γ : Type} {r : Res α} {f : α → Store → Res β} {g : β → Store → Res γ} : (r.go f).go g = r.go fun a st => (f a st).go g := by cases r <;> rfl
/-- what a turn must end with -/
def Turn (I : Rho → Store → Prop) (Q : Fl → Store → Prop) : Fl → Store → Prop
  | .nx ρ, st => I ρ st
  | .ct ρ, st => I ρ st
  | .bk ρ, st => Q (.nx ρ) st
  | .rt d, st => Q (.rt d) st
theorem wp_items {body : D → Rho → M Fl} {Q : Fl → Store → Prop} (I : List D → Rho → Store → Prop)
    (hs : ∀ x r ρ st, I (x :: r) ρ st → Wp (body x ρ st) (Turn (I r) Q)) (he : ∀ ρ st, I [] ρ st → Q (.nx ρ) st) : ∀ (xs : List D) (ρ : Rho) (st : Store), I xs ρ st → Wp (loopItems body xs ρ st) Q
  | [], ρ, st, h => ⟨_, _, rfl, he ρ st h⟩
  | x :: r, ρ, st, h => by
    rw [loop_cons]
    refine Wp.by_ (hs x r ρ st h) fun f st' t => ?_
    cases f with
    | nx ρ' => exact wp_items I hs he r ρ' st' t
    | ct ρ' => exact wp_items I hs he r ρ' st' t
    | bk ρ' => exact ⟨_, _, rfl, t⟩
    | rt d => exact ⟨_, _, rfl, t⟩
/-- by the number of turns done -/
theorem wp_for {body : D → Rho → M Fl} {Q : Fl → Store → Prop} {xs : List D} {ρ : Rho} {st : Store} (I : Nat → Rho → Store → Prop)
    (h0 : I 0 ρ st) (hs : ∀ i x, xs[i]? = some x → ∀ ρ st, I i ρ st → Wp (body x ρ st) (Turn (I (i + 1)) Q)) (he : ∀ ρ st, I xs.length ρ st → Q (.nx ρ) st) : Wp (loopItems body xs ρ st) Q := by
  refine wp_items (fun r ρ st => ∃ i, r = xs.drop i ∧ i ≤ xs.length ∧ I i ρ st) (fun x r ρ st ⟨i, e, le, h⟩ => ?_) (fun ρ st ⟨i, e, le, h⟩ => ?_) xs ρ st ⟨0, rfl, Nat.zero_le _, h0⟩
  · have hi : xs[i]? = some x := by
      have : (xs.drop i)[0]? = some x := by rw [← e]; rfl
      rwa [List.getElem?_drop] at this
    have hlt : i < xs.length := (List.getElem?_eq_some_iff.mp hi).1
    refine (hs i x hi ρ st h).mono fun f st' t => ?_
    have er : r = xs.drop (i + 1) := by
      have : xs.drop (i + 1) = (xs.drop i).drop 1 := by rw [List.drop_drop]
      rw [this, ← e]; rfl
    cases f with
    | nx ρ' => exact ⟨i + 1, er, hlt, t⟩
    | ct ρ' => exact ⟨i + 1, er, hlt, t⟩
    | bk ρ' => exact t
    | rt d => exact t
  · have : xs.length ≤ i := by
      have : (xs.drop i).length = 0 := by rw [← e]; rfl
      rw [List.length_drop] at this
      omega
    have : i = xs.length := by omega
    subst this
    exact he ρ st h

theorem rgI_eq {lo : Int} {n : Nat} : rgI lo n 1 = (List.range n).map fun i : Nat => D.int (lo + i) := by
  unfold rgI
  exact List.map_congr_left fun i _ => by rw [Int.mul_one]
theorem rgI_zero {n : Nat} : rgI 0 n 1 = (List.range n).map fun i : Nat => D.int (i : Int) := by
  rw [rgI_eq]
  exact List.map_congr_left fun i _ => by rw [Int.zero_add]
theorem get_range {α : Type} {n i : Nat} {f : Nat → α} (h : i < n) : ((List.range n).map f)[i]? = some (f i) := by
  rw [List.getElem?_map, List.getElem?_range h]; rfl
theorem get_range_some {α : Type} {n i : Nat} {f : Nat → α} {x : α} (h : ((List.range n).map f)[i]? = some x) : i < n ∧ x = f i := by
  have h1 : i < ((List.range n).map f).length := (List.getElem?_eq_some_iff.mp h).1
  rw [List.length_map, List.length_range] at h1
  rw [get_range h1] at h
  exact ⟨h1, (Option.some.inj h).symm⟩
theorem small_nat {n : Nat} (h : n < 2 ^ 62) : small (n : Int) = true := by
  unfold small
  rw [decide_eq_true (show -(2 ^ 62 : Int) ≤ (n : Int) by omega), decide_eq_true (show (n : Int) < 2 ^ 62 by omega)]; rfl
theorem smallI_nat {n : Nat} {st : Store} (h : n < 2 ^ 62) : smallI (.int (n : Int)) st = .ok (n : Int) st := by
  show (if small (n : Int) then Res.ok (n : Int) st else .stuck) = _
  rw [small_nat h]; rfl
section
variable {cf : Nat → List D → M D} {ρ : Rho} {st : Store}
theorem src_rg1 {a : E} {n : Nat} {i : Int} (ha : evE cf a ρ st = .ok (.int i) st) (hi : i = n) (hn : n < 2 ^ 62) : evI cf (.rg1 a) ρ st = .ok (.items ((List.range n).map fun i : Nat => D.int (i : Int))) st := by
  subst hi
  rw [iE_rg1, ha, go_ok, smallI_nat hn, go_ok, Int.toNat_natCast, rgI_zero]
theorem iE_rg2 {a b : E} : evI cf (.rg2 a b) ρ st = (evE cf a ρ st).go fun x st1 => (evE cf b ρ st1).go fun y st2 => (smallI x st2).go fun i st3 => (smallI y st3).go fun j st4 => .ok (.items (rgI i (j - i).toNat 1)) st4 := (rfl)
theorem src_rg2 {a b : E} {n m : Nat} {i j : Int} (ha : evE cf a ρ st = .ok (.int i) st) (hb : evE cf b ρ st = .ok (.int j) st) (hi : i = n) (hj : j = m) (hn : n < 2 ^ 62) (hm : m < 2 ^ 62) : evI cf (.rg2 a b) ρ st = .ok (.items ((List.range (m - n)).map fun i : Nat => D.int ((n + i : Nat) : Int))) st := by
  subst hi hj
  rw [iE_rg2, ha, go_ok, hb, go_ok, smallI_nat hn, go_ok, smallI_nat hm, go_ok, rgI_eq]
  have e : ((m : Int) - n).toNat = m - n := by omega
  rw [e]
  have e2 : (fun i : Nat => D.int ((n : Int) + i)) = fun i : Nat => D.int ((n + i : Nat) : Int) := funext fun i => by rw [Int.natCast_add]
  rw [e2]
theorem wp_forS {t : T} {it : E} {b : S} {xs : List D} {Q : Fl → Store → Prop} (hi : evI cf it ρ st = .ok (.items xs) st) (I : Nat → Rho → Store → Prop)
    (h0 : I 0 ρ st) (hs : ∀ i x, xs[i]? = some x → ∀ ρ st, I i ρ st → Wp ((asT cf t x ρ st).go fun ρ' st' => evS cf b ρ' st') (Turn (I (i + 1)) Q)) (he : ∀ ρ st, I xs.length ρ st → Q (.nx ρ) st) : Wp (evS cf (.for_ t it b) ρ st) Q := by
  rw [eS_for, hi, go_ok]
  exact wp_for I h0 (fun i x hx ρ st h => hs i x hx ρ st h) he
/-- over a range -/
theorem wp_range {i0 : Nat} {it b} {n : Nat} {g : Nat → Int} {Q : Fl → Store → Prop} (hi : evI cf it ρ st = .ok (.items ((List.range n).map fun i : Nat => D.int (g i))) st) (I : Nat → Rho → Store → Prop)
    (h0 : I 0 ρ st) (hs : ∀ i, i < n → ∀ ρ st, I i ρ st → Wp (evS cf b (ρ.set i0 (some (.int (g i)))) st) (Turn (I (i + 1)) Q)) (he : ∀ ρ st, I n ρ st → Q (.nx ρ) st) : Wp (evS cf (.for_ (.nm i0) it b) ρ st) Q := by
  refine wp_forS hi I h0 (fun i x hx ρ st h => ?_) (fun ρ st h => he ρ st (by rwa [List.length_map, List.length_range] at h))
  obtain ⟨h1, rfl⟩ := get_range_some hx
  rw [eT_nm, go_ok]
  exact hs i h1 ρ st h
theorem cell_step {body : D → Rho → M Fl} {n k i : Nat} {ys : List D} {y : D} (hc : st[n]? = some (.lst ys)) (hy : ys[i]? = some y) : loopCell body n (k + 1) i ρ st = (body y ρ st).go fun f st2 => (match f with
          | .nx ρ' => loopCell body n k (i + 1) ρ'
          | .ct ρ' => loopCell body n k (i + 1) ρ'
          | .bk ρ' => fun st => .ok (.nx ρ') st
          | .rt d => fun st => .ok (.rt d) st : M Fl) st2 := by
  show (match st[n]? with
    | some (.lst ys) => match ys[i]? with
      | none => Res.ok (Fl.nx ρ) st
      | some y => (M.bind (body y ρ) fun f => match f with
          | .nx ρ' => loopCell body n k (i + 1) ρ'
          | .ct ρ' => loopCell body n k (i + 1) ρ'
          | .bk ρ' => fun st => .ok (.nx ρ') st
          | .rt d => fun st => .ok (.rt d) st) st
    | none => .stuck) = _
  rw [hc]
  dsimp only
  rw [hy]
  dsimp only
  unfold M.bind
  cases body y ρ st with
  | ok f st2 => cases f <;> rfl
  | exc _ _ => rfl
  | stuck => rfl
/-- over a cell that the turns leave as it is -/
theorem wp_cellL {body : D → Rho → M Fl} {n : Nat} {xs : List D} {Q : Fl → Store → Prop} (I : Nat → Rho → Store → Prop) (hc : ∀ i ρ st, I i ρ st → st[n]? = some (.lst xs))
    (hs : ∀ i x, xs[i]? = some x → ∀ ρ st, I i ρ st → Wp (body x ρ st) (Turn (I (i + 1)) Q)) (he : ∀ ρ st, I xs.length ρ st → Q (.nx ρ) st) : ∀ (k i : Nat) (ρ : Rho) (st : Store), k + i = xs.length → I i ρ st → Wp (loopCell body n k i ρ st) Q
  | 0, i, ρ, st, e, h => by
    have h1 := hc i ρ st h
    have e2 : loopCell body n 0 i ρ st = (match st[n]? with
      | some (.lst ys) => if ys.length ≤ i then Res.ok (Fl.nx ρ) st else .stuck
      | none => .stuck) := rfl
    rw [e2, h1]
    dsimp only
    rw [if_pos (by omega)]
    have : i = xs.length := by omega
    subst this
    exact ⟨_, _, rfl, he ρ st h⟩
  | k + 1, i, ρ, st, e, h => by
    have hlt : i < xs.length := by omega
    rw [cell_step (hc i ρ st h) (List.getElem?_eq_getElem hlt)]
    refine Wp.by_ (hs i _ (List.getElem?_eq_getElem hlt) ρ st h) fun f st' t => ?_
    cases f with
    | nx ρ' => exact wp_cellL I hc hs he k (i + 1) ρ' st' (by omega) t
    | ct ρ' => exact wp_cellL I hc hs he k (i + 1) ρ' st' (by omega) t
    | bk ρ' => exact ⟨_, _, rfl, t⟩
    | rt d => exact ⟨_, _, rfl, t⟩
theorem wp_cell {t : T} {it : E} {b : S} {n : Nat} {xs : List D} {Q : Fl → Store → Prop} (hi : evI cf it ρ st = .ok (.cell n) st) (I : Nat → Rho → Store → Prop) (hc : ∀ i ρ st, I i ρ st → st[n]? = some (.lst xs))
    (h0 : I 0 ρ st) (hs : ∀ i x, xs[i]? = some x → ∀ ρ st, I i ρ st → Wp ((asT cf t x ρ st).go fun ρ' st' => evS cf b ρ' st') (Turn (I (i + 1)) Q)) (he : ∀ ρ st, I xs.length ρ st → Q (.nx ρ) st) : Wp (evS cf (.for_ t it b) ρ st) Q := by
  rw [eS_for, hi, go_ok]
  have h1 := hc 0 ρ st h0
  show Wp ((match st[n]? with
    | some (.lst ys) => loopCell (fun d ρ => asT cf t d ρ >>= fun ρ' => evS cf b ρ') n ys.length 0 ρ st
    | none => .stuck)) Q
  rw [h1]
  exact wp_cellL I hc (fun i x hx ρ st h => hs i x hx ρ st h) he xs.length 0 ρ st (by omega) h0
theorem wp_compI {f : D → M (Option D)} {xs : List D} {Q : List D → Store → Prop} (I : Nat → List D → Store → Prop)
    (hs : ∀ i x, xs[i]? = some x → ∀ acc st, I i acc st → Wp (f x st) fun o st' => I (i + 1) (acc ++ o.toList) st') (he : ∀ acc st, I xs.length acc st → Q acc st) :
    ∀ (k i : Nat) (acc : List D) (st : Store), k + i = xs.length → I i acc st → Wp (compItems f (xs.drop i) st) fun r st' => Q (acc ++ r) st'
  | 0, i, acc, st, e, h => by
    have : i = xs.length := by omega
    subst this
    rw [List.drop_length]
    refine ⟨[], st, rfl, ?_⟩
    show Q (acc ++ []) st
    rw [List.append_nil]
    exact he acc st h
  | k + 1, i, acc, st, e, h => by
    have hlt : i < xs.length := by omega
    rw [List.drop_eq_getElem_cons hlt]
    obtain ⟨o, st1, e1, h1⟩ := hs i _ (List.getElem?_eq_getElem hlt) acc st h
    obtain ⟨r, st2, e2, h2⟩ := wp_compI I hs he k (i + 1) _ st1 (by omega) h1
    refine ⟨o.toList ++ r, st2, ?_, by rwa [List.append_assoc] at h2⟩
    show (M.bind (f xs[i]) fun o => M.bind (compItems f (xs.drop (i + 1))) fun r => (match o with
      | some d => fun st => .ok (d :: r) st
      | none => fun st => .ok r st : M (List D))) st = _
    unfold M.bind
    rw [e1]
    dsimp only
    rw [e2]
    cases o <;> rfl
theorem wp_comp {cell one : Bool} {elt it cond : E} {tg : List Nat} {xs : List D} {Q : D → Store → Prop} (hi : evI cf it ρ st = .ok (.items xs) st) (I : Nat → List D → Store → Prop) (h0 : I 0 [] st)
    (hs : ∀ i x, xs[i]? = some x → ∀ acc st, I i acc st → Wp (cBody cf ρ one tg cond elt x st) fun o st' => I (i + 1) (acc ++ o.toList) st')
    (he : ∀ acc st, I xs.length acc st → acc.length ≤ 16777216 ∧ Wp (mkL cell acc st) Q) : Wp (evE cf (.comp cell elt tg one it cond) ρ st) Q := by
  obtain ⟨r, st', e, h⟩ := wp_compI (f := cBody cf ρ one tg cond elt) (Q := fun acc st => acc.length ≤ 16777216 ∧ Wp (mkL cell acc st) Q) I hs he xs.length 0 [] st (by omega) h0
  rw [List.drop_zero] at e
  rw [List.nil_append] at h
  show Wp ((M.bind (evI cf it ρ) fun s => M.bind (noExc (compSrc (cBody cf ρ one tg cond elt) s)) fun xs => fun st => if decide (xs.length ≤ 16777216) then mkL cell xs st else .stuck) st) Q
  unfold M.bind
  rw [hi]
  dsimp only
  have e1 : noExc (compSrc (cBody cf ρ one tg cond elt) (.items xs)) st = .ok r st' := by
    unfold noExc
    rw [show compSrc (cBody cf ρ one tg cond elt) (.items xs) st = .ok r st' from e]
  rw [e1]
  dsimp only
  rw [if_pos (by simpa using h.1)]
  exact h.2
theorem cBody_go {elt cond : E} {i0 : Nat} {d : D} : cBody cf ρ true [i0] cond elt d st = (evE cf cond (ρ.set i0 (some d)) st).go fun x st1 => (asBool x st1).go fun c st2 => if c then (evE cf elt (ρ.set i0 (some d)) st2).go fun y st3 => .ok (some y) st3 else .ok none st2 := by
  show M.bind (evE cf cond (ρ.set i0 (some d))) (fun x => M.bind (asBool x) fun c => if c then M.bind (evE cf elt (ρ.set i0 (some d))) (fun y => fun st => .ok (some y) st) else fun st => .ok none st) st = _
  unfold M.bind
  cases evE cf cond (ρ.set i0 (some d)) st with
  | ok x st1 =>
    dsimp only [Res.go]
    cases asBool x st1 with
    | ok c st2 => cases c <;> rfl
    | exc _ _ => rfl
    | stuck => rfl
  | exc _ _ => rfl
  | stuck => rfl
/-- pure, each item told -/
theorem comp_pure {ι : Type} {elt it : E} {i0 : Nat} {zs : List ι} {e r : ι → D} (hi : evI cf it ρ st = .ok (.items (zs.map e)) st) (h : ∀ z ∈ zs, evE cf elt (ρ.set i0 (some (e z))) st = .ok (r z) st) (hl : zs.length ≤ 16777216) :
    evE cf (.comp false elt [i0] true it (.cst (.bl true))) ρ st = .ok (.lst (zs.map r)) st := comp_runM hi (fun z hz => cBody_one (h z hz)) hl
/-- pure, over a range -/
theorem comp_range {elt it : E} {i0 n : Nat} {g : Nat → Int} {r : Nat → D} (hi : evI cf it ρ st = .ok (.items ((List.range n).map fun i : Nat => D.int (g i))) st) (h : ∀ i, i < n → evE cf elt (ρ.set i0 (some (.int (g i)))) st = .ok (r i) st) (hl : n ≤ 16777216) :
    evE cf (.comp false elt [i0] true it (.cst (.bl true))) ρ st = .ok (.lst ((List.range n).map r)) st := comp_pure hi (fun z hz => h z (List.mem_range.mp hz)) (by rwa [List.length_range])
/-- with a test -/
theorem comp_test {ι : Type} {elt it cond : E} {i0 : Nat} {zs : List ι} {e r : ι → D} {p : ι → Bool} (hi : evI cf it ρ st = .ok (.items (zs.map e)) st) (hp : ∀ z ∈ zs, evE cf cond (ρ.set i0 (some (e z))) st = .ok (.bl (p z)) st) (h : ∀ z ∈ zs, p z = true → evE cf elt (ρ.set i0 (some (e z))) st = .ok (r z) st) (hl : zs.length ≤ 16777216) :
    evE cf (.comp false elt [i0] true it cond) ρ st = .ok (.lst ((zs.filter p).map r)) st := by
  refine Wp.eq (wp_comp hi (fun i acc st' => st' = st ∧ acc = ((zs.take i).filter p).map r) ⟨rfl, by simp⟩ ?_ ?_)
  · rintro i x hx acc st' ⟨rfl, rfl⟩
    rw [List.getElem?_map] at hx
    obtain ⟨z, hz, rfl⟩ : ∃ z, zs[i]? = some z ∧ e z = x := by
      cases hz : zs[i]? with
      | none => rw [hz] at hx; cases hx
      | some z => rw [hz] at hx; exact ⟨z, rfl, Option.some.inj hx⟩
    have hm : z ∈ zs := List.mem_of_getElem? hz
    have ht : zs.take (i + 1) = zs.take i ++ [z] := by rw [List.take_add_one, hz]; rfl
    have hb : cBody cf ρ true [i0] cond elt (e z) st' = .ok (if p z then some (r z) else none) st' := by
      rw [cBody_go, hp z hm, go_ok, asBool_bl, go_ok]
      cases hpz : p z with
      | false => rfl
      | true => rw [if_pos rfl, h z hm hpz]; rfl
    refine ⟨_, _, hb, rfl, ?_⟩
    rw [ht, List.filter_append, List.map_append]
    cases hpz : p z with
    | false => simp [hpz]
    | true => simp [hpz]
  · rintro acc st' ⟨rfl, rfl⟩
    have e1 : zs.take (zs.map e).length = zs := by rw [List.length_map, List.take_length]
    rw [e1]
    exact ⟨by rw [List.length_map]; exact Nat.le_trans (List.length_filter_le _ _) hl, _, _, rfl, rfl, rfl⟩
end
theorem ix_seq {st : Store} {a x : D} {xs : List D} {i : Nat} (hs : seqOf st a = some xs) (hx : xs[i]? = some x) : idxV a (.int (i : Int)) st = .ok x st := by
  show (match seqOf st a with
    | some xs => match L2.atI xs (i : Int) with
      | some x => Res.ok x st
      | none => .stuck
    | none => .stuck) = _
  rw [hs]
  dsimp only
  rw [atI_nat hx]
theorem ix_lst {st : Store} {x : D} {xs : List D} {i : Nat} (hx : xs[i]? = some x) : idxV (.lst xs) (.int (i : Int)) st = .ok x st := ix_seq rfl hx
theorem seq_ref {st : Store} {n : Nat} {xs : List D} (h : st[n]? = some (.lst xs)) : seqOf st (.ref n) = some xs := by
  show (match st[n]? with
    | some (.lst xs) => some xs
    | none => none) = _
  rw [h]
theorem lst_ref {st : Store} {n : Nat} {xs : List D} (h : st[n]? = some (.lst xs)) : lstOf st (.ref n) = some xs := seq_ref h
theorem len_seq {st : Store} {a : D} {xs : List D} (hs : seqOf st a = some xs) (h : ∀ x, a ≠ .str x) : lenV a st = .ok (.int xs.length) st := by
  cases a with
  | str x => exact absurd rfl (h x)
  | _ =>
    unfold lenV
    dsimp only
    rw [hs]
theorem isLst_ref {st : Store} {n : Nat} {xs : List D} (h : st[n]? = some (.lst xs)) : isLst (.ref n) st = .ok () st := by
  unfold isLst
  rw [lst_ref h]
theorem append_ref {st : Store} {n : Nat} {xs : List D} {x : D} (h : st[n]? = some (.lst xs)) (hl : xs.length < 16777216) : appendV (.ref n) x st = .ok .non (st.set n (.lst (xs ++ [x]))) := by
  unfold appendV
  dsimp only
  rw [h]
  dsimp only
  rw [if_pos (decide_eq_true hl)]
theorem b_append {a x : D} {st : Store} : biV .append [a, x] st = appendV a x st := (rfl)
theorem b_pop {a : D} {st : Store} : biV .pop [a] st = popV a st := (rfl)
theorem b_rev {c : Bool} {a : D} {st : Store} : biV (.rev c) [a] st = revV c a st := (rfl)
theorem rev_ref {st : Store} {n : Nat} {xs : List D} (h : st[n]? = some (.lst xs)) : revV false (.ref n) st = .ok (.lst xs.reverse) st := by
  unfold revV
  dsimp only
  rw [lst_ref h]
  rfl
theorem ixN_nat {len i : Nat} (h : i < len) : L2.ixN len (i : Int) = some i := by
  unfold L2.ixN
  have e1 : ¬ ((i : Int) < 0) := by omega
  simp [e1, h]
theorem setItem_ref {st : Store} {n i : Nat} {xs : List D} {x : D} (h : st[n]? = some (.lst xs)) (hi : i < xs.length) : setItemV (.ref n) (.int (i : Int)) x st = .ok () (st.set n (.lst (xs.set i x))) := by
  unfold setItemV
  dsimp only
  rw [h]
  dsimp only
  rw [ixN_nat hi]
theorem tuple_seq {st : Store} {a : D} {xs : List D} (hs : seqOf st a = some xs) : tupleV a st = .ok (.tup xs) st := by
  unfold tupleV
  rw [hs]
theorem list_seq {st : Store} {a : D} {xs : List D} {c : Bool} (hs : seqOf st a = some xs) : listV c a st = mkL c xs st := by
  unfold listV
  rw [hs]
theorem mkL_in {st : Store} {xs : List D} : mkL false xs st = .ok (.lst xs) st := (rfl)
theorem mkL_new {st : Store} {xs : List D} : mkL true xs st = .ok (.ref st.length) (st ++ [.lst xs]) := (rfl)
theorem mkLst_in {st : Store} {xs : List D} (h : xs.length ≤ 16777216) : mkLst false xs st = .ok (.lst xs) st := by
  unfold mkLst fits
  rw [if_pos (decide_eq_true h)]; rfl
theorem mkLst_new {st : Store} {xs : List D} (h : xs.length ≤ 16777216) : mkLst true xs st = .ok (.ref st.length) (st ++ [.lst xs]) := by
  unfold mkLst fits
  rw [if_pos (decide_eq_true h)]; rfl
theorem mkTup_ok {st : Store} {xs : List D} (h : xs.length ≤ 16777216) : mkTup xs st = .ok (.tup xs) st := by
  unfold mkTup fits
  rw [if_pos (decide_eq_true h)]
mutual
def sz : D → Nat
  | .tup xs => szs xs + 1
  | .lst xs => szs xs + 1
  | _ => 1
def szs : List D → Nat
  | [] => 0
  | x :: xs => sz x + szs xs + 1
end
mutual
theorem fz_closed {st : Store} {base : Nat} : ∀ {d : D} {k : Nat}, below base d = true → sz d ≤ k → fz st base k d = some d
  | d, 0, _, h => by cases d <;> exact absurd h (by simp only [sz]; omega)
  | .non, k + 1, _, _ => rfl
  | .bl _, k + 1, _, _ => rfl
  | .int _, k + 1, _, _ => rfl
  | .str _, k + 1, _, _ => rfl
  | .fn _, k + 1, _, _ => rfl
  | .lok _, k + 1, h, _ => by cases h
  | .ref n, k + 1, h, _ => by
    have : n < base := of_decide_eq_true h
    show (if n < base then some (D.ref n) else _) = _
    rw [if_pos this]
  | .tup xs, k + 1, h, hk => by
    show (fzs st base k xs).map D.tup = _
    rw [fzs_closed h (by simp only [sz] at hk; omega)]; rfl
  | .lst xs, k + 1, h, hk => by
    show (fzs st base k xs).map D.lst = _
    rw [fzs_closed h (by simp only [sz] at hk; omega)]; rfl
theorem fzs_closed {st : Store} {base : Nat} : ∀ {xs : List D} {k : Nat}, belows base xs = true → szs xs ≤ k → fzs st base k xs = some xs
  | [], k, _, _ => by cases k <;> rfl
  | x :: xs, 0, _, h => absurd h (by simp only [szs]; omega)
  | x :: xs, k + 1, h, hk => by
    have h' : (below base x && belows base xs) = true := h
    rw [Bool.and_eq_true] at h'
    simp only [szs] at hk
    show (do
      let y ← fz st base k x
      let ys ← fzs st base k xs
      some (y :: ys)) = _
    rw [fz_closed h'.1 (by omega), fzs_closed h'.2 (by omega)]; rfl
end
theorem belows_map {ι : Type} {n : Nat} {e : ι → D} : ∀ {zs : List ι}, (∀ z ∈ zs, below n (e z) = true) → belows n (zs.map e) = true
  | [], _ => rfl
  | z :: zs, h => by
    show (below n (e z) && belows n (zs.map e)) = true
    rw [h z List.mem_cons_self, belows_map fun y hy => h y (List.mem_cons_of_mem _ hy)]; rfl
theorem szs_map {ι : Type} {m : Nat} {e : ι → D} : ∀ {zs : List ι}, (∀ z ∈ zs, sz (e z) ≤ m) → szs (zs.map e) ≤ zs.length * (m + 1)
  | [], _ => Nat.zero_le _
  | z :: zs, h => by
    have h1 := h z List.mem_cons_self
    have h2 := szs_map fun y hy => h y (List.mem_cons_of_mem _ hy)
    simp only [List.map_cons, szs, List.length_cons, Nat.add_mul, Nat.one_mul]
    omega
/-- elder cells as they were -/
theorem oldOk_pre {base : Nat} : ∀ {st0 r : Store}, oldOk base st0 (st0 ++ r) = true
  | [], _ => rfl
  | .lst xs :: st0, r => by
    show ((sames xs xs || belows base xs) && oldOk base st0 (st0 ++ r)) = true
    rw [sames_refl, oldOk_pre]; rfl
theorem leave_new {st0 r : Store} {d : D} (hb : below st0.length d = true) (hs : sz d ≤ 1000000) : leave false st0 d (st0 ++ r) = .ok d st0 := by
  unfold leave
  rw [if_neg (by decide)]
  by_cases h : (st0 ++ r).length = st0.length
  · rw [if_pos h, if_pos hb]
    have : r = [] := by
      rw [List.length_append] at h
      exact List.eq_nil_of_length_eq_zero (by omega)
    rw [this, List.append_nil]
  · rw [if_neg h, if_pos oldOk_pre, fz_closed hb hs]
    dsimp only
    rw [List.take_left]
/-- a call whose run is told -/
theorem call_wp {tbl : Nat → Option Def} {k f : Nat} {d : Def} {args : List D} {st : Store} {Q : D → Store → Prop} (h : tbl f = some d) (hl : args.length = d.np) (hk : d.keep = false)
    (hb : Wp (evS (callF tbl k) d.body (args.map some ++ List.replicate (d.ns - d.np) none) st) fun f st' => ∃ r, f = .rt r ∧ Wp (leave false st r st') Q) : Wp (callF tbl (k + 1) f args st) Q := by
  obtain ⟨f, st', e, r, rfl, w⟩ := hb
  rw [call_unf h hl, e]
  dsimp only
  rw [hk]
  exact w
/-- new cells, a closed answer -/
theorem leave_wp {st0 r : Store} {d : D} {Q : D → Store → Prop} (hb : below st0.length d = true) (hs : sz d ≤ 1000000) (q : Q d st0) : Wp (leave false st0 d (st0 ++ r)) Q := ⟨d, st0, leave_new hb hs, q⟩
theorem leave_wp0 {st0 st' : Store} {d : D} {Q : D → Store → Prop} (hl : st'.length = st0.length) (hb : below st0.length d = true) (q : Q d st') : Wp (leave false st0 d st') Q := by
  refine ⟨d, st', ?_, q⟩
  unfold leave
  rw [if_neg (by decide), if_pos hl, if_pos hb]
end PC
namespace PC
open PySem
section
variable {cf : Nat → List D → M D} {ρ : Rho} {st st' : Store} {Q : Fl → Store → Prop}
/-- what a statement must end with, the rest being told -/
def Next (R : Rho → Store → Prop) (Q : Fl → Store → Prop) : Fl → Store → Prop
  | .nx ρ, st => R ρ st
  | .rt d, st => Q (.rt d) st
  | .bk ρ, st => Q (.bk ρ) st
  | .ct ρ, st => Q (.ct ρ) st
theorem wp_seq {a b : S} (h : Wp (evS cf a ρ st) (Next (fun ρ' st1 => Wp (evS cf b ρ' st1) Q) Q)) : Wp (evS cf (.seq a b) ρ st) Q := by
  rw [eS_seq]
  refine Wp.by_ h fun f st1 t => ?_
  cases f with
  | nx ρ' => exact t
  | rt d => exact Wp.ok t
  | bk d => exact Wp.ok t
  | ct d => exact Wp.ok t
theorem wp_skip (h : Q (.nx ρ) st) : Wp (evS cf .skip ρ st) Q := Wp.ok h
theorem wp_asg {i : Nat} {e : E} {d : D} (h : evE cf e ρ st = .ok d st') (q : Q (.nx (ρ.set i (some d))) st') : Wp (evS cf (.asg (.nm i) e) ρ st) Q := by
  rw [eS_asg, h, go_ok, eT_nm, go_ok]
  exact Wp.ok q
theorem wp_asgP {i : Nat} {e : E} {d : D} (h : evE cf e ρ st = .ok d st) (q : Q (.nx (ρ.set i (some d))) st) : Wp (evS cf (.asg (.nm i) e) ρ st) Q := wp_asg h q
theorem wp_asgW {i : Nat} {e : E} (h : Wp (evE cf e ρ st) fun d st' => Q (.nx (ρ.set i (some d))) st') : Wp (evS cf (.asg (.nm i) e) ρ st) Q := by
  rw [eS_asg]
  refine Wp.by_ h fun d st1 q => ?_
  rw [eT_nm, go_ok]
  exact Wp.ok q
/-- any target, its end told -/
theorem wp_asgT {t : T} {e : E} {d : D} {ρ' : Rho} {st2 : Store} (h : evE cf e ρ st = .ok d st') (ht : asT cf t d ρ st' = .ok ρ' st2) (q : Q (.nx ρ') st2) : Wp (evS cf (.asg t e) ρ st) Q := by
  rw [eS_asg, h, go_ok, ht, go_ok]
  exact Wp.ok q
theorem wp_asgTW {t : T} {e : E} (h : Wp (evE cf e ρ st) fun d st' => Wp (asT cf t d ρ st') fun ρ' st2 => Q (.nx ρ') st2) : Wp (evS cf (.asg t e) ρ st) Q := by
  rw [eS_asg]
  refine Wp.by_ h fun d st1 q => ?_
  exact Wp.by_ q fun ρ' st2 q => Wp.ok q
theorem wp_ex {e : E} {d : D} (h : evE cf e ρ st = .ok d st') (q : Q (.nx ρ) st') : Wp (evS cf (.ex e) ρ st) Q := by
  rw [eS_ex, h, go_ok]
  exact Wp.ok q
theorem wp_exW {e : E} (h : Wp (evE cf e ρ st) fun _ st' => Q (.nx ρ) st') : Wp (evS cf (.ex e) ρ st) Q := by
  rw [eS_ex]
  exact Wp.by_ h fun d st1 q => Wp.ok q
theorem wp_ret {e : E} {d : D} (h : evE cf e ρ st = .ok d st') (q : Q (.rt d) st') : Wp (evS cf (.ret e) ρ st) Q := by
  rw [eS_ret, h, go_ok]
  exact Wp.ok q
theorem wp_retW {e : E} (h : Wp (evE cf e ρ st) fun d st' => Q (.rt d) st') : Wp (evS cf (.ret e) ρ st) Q := by
  rw [eS_ret]
  exact Wp.by_ h fun d st1 q => Wp.ok q
theorem wp_ite {c : E} {a b : S} {x : Bool} (h : evE cf c ρ st = .ok (.bl x) st') (q : Wp (if x then evS cf a ρ st' else evS cf b ρ st') Q) : Wp (evS cf (.ite c a b) ρ st) Q := by
  rw [eS_ite, h, go_ok, asBool_bl, go_ok]
  exact q
theorem wp_iteT {c : E} {a b : S} (h : evE cf c ρ st = .ok (.bl true) st') (q : Wp (evS cf a ρ st') Q) : Wp (evS cf (.ite c a b) ρ st) Q := wp_ite h (by rw [if_pos rfl]; exact q)
theorem wp_iteF {c : E} {a b : S} (h : evE cf c ρ st = .ok (.bl false) st') (q : Wp (evS cf b ρ st') Q) : Wp (evS cf (.ite c a b) ρ st) Q := wp_ite h (by rw [if_neg (by decide)]; exact q)
theorem wp_iteB {c : E} {a b : S} {x : Bool} (h : evE cf c ρ st = .ok (.bl x) st') (q1 : x = true → Wp (evS cf a ρ st') Q) (q2 : x = false → Wp (evS cf b ρ st') Q) : Wp (evS cf (.ite c a b) ρ st) Q := wp_ite h (by
  cases x with
  | true => exact q1 rfl
  | false => exact q2 rfl)
theorem wp_iteW {c : E} {a b : S} (h : Wp (evE cf c ρ st) fun d st' => ∃ x, d = .bl x ∧ Wp (if x then evS cf a ρ st' else evS cf b ρ st') Q) : Wp (evS cf (.ite c a b) ρ st) Q := by
  rw [eS_ite]
  refine Wp.by_ h fun d st1 ⟨x, e, q⟩ => ?_
  subst e
  rw [asBool_bl, go_ok]
  exact q
theorem it_two {t1 t2 : T} {x y : D} : itemsM (lenT (.cons t1 (.cons t2 .nil))) (.tup [x, y]) st = .ok [x, y] st := (rfl)
theorem it_three {t1 t2 t3 : T} {x y z : D} : itemsM (lenT (.cons t1 (.cons t2 (.cons t3 .nil)))) (.tup [x, y, z]) st = .ok [x, y, z] st := (rfl)
theorem lenL {xs : List D} : lenV (.lst xs) st = .ok (.int xs.length) st := (rfl)
theorem lenTu {xs : List D} : lenV (.tup xs) st = .ok (.int xs.length) st := (rfl)
theorem mkLst_nil : mkLst true [] st = .ok (.ref st.length) (st ++ [.lst []]) := (rfl)
theorem mkTup3 {a b c : D} : mkTup [a, b, c] st = .ok (.tup [a, b, c]) st := (rfl)
theorem isTL {xs : List D} : isinstV [.tuple] (.lst xs) st = .ok (.bl false) st := (rfl)
theorem isTT {xs : List D} : isinstV [.tuple] (.tup xs) st = .ok (.bl true) st := (rfl)
theorem addLL {xs ys : List D} (h : xs.length + ys.length ≤ 16777216) : biV (.add false) [.lst xs, .lst ys] st = .ok (.lst (xs ++ ys)) st := by
  show (if fits (xs.length + ys.length) then mkL false (xs ++ ys) st else .stuck) = _
  unfold fits
  rw [if_pos (decide_eq_true h)]; rfl
theorem addTT {c : Bool} {xs ys : List D} (h : xs.length + ys.length ≤ 16777216) : biV (.add c) [.tup xs, .tup ys] st = .ok (.tup (xs ++ ys)) st := by
  show (if fits (xs.length + ys.length) then Res.ok (D.tup (xs ++ ys)) st else .stuck) = _
  unfold fits
  rw [if_pos (decide_eq_true h)]
end
end PC
namespace PC
open PySem
section
variable {cf : Nat → List D → M D} {ρ : Rho} {st : Store}
theorem mkLst_one {x : D} : mkLst false [x] st = .ok (.lst [x]) st := (rfl)
theorem b_intB {b : Bool} : biV .int [.bl b] st = .ok (.int (if b then 1 else 0)) st := (rfl)
theorem eE_slTF {c : Bool} {a lo hi : E} : evE cf (.sl c true false a lo hi) ρ st = (evE cf a ρ st).go fun d st1 => (evE cf lo ρ st1).go fun y st2 => (intPart y st2).go fun x st3 => sliceV c d x none st3 := by
  show (M.bind (evE cf a ρ) fun d => M.bind (M.bind (evE cf lo ρ) intPart) fun x => sliceV c d x none) st = _
  unfold M.bind
  cases evE cf a ρ st with
  | ok d st1 =>
    dsimp only [Res.go]
    cases evE cf lo ρ st1 with
    | ok y st2 =>
      dsimp only [Res.go]
      first | done | (cases intPart y st2 <;> rfl)
    | exc _ _ => rfl
    | stuck => rfl
  | exc _ _ => rfl
  | stuck => rfl
theorem eE_slFT {c : Bool} {a lo hi : E} : evE cf (.sl c false true a lo hi) ρ st = (evE cf a ρ st).go fun d st1 => (evE cf hi ρ st1).go fun y st2 => (intPart y st2).go fun x st3 => sliceV c d none x st3 := by
  show (M.bind (evE cf a ρ) fun d => M.bind (M.bind (evE cf hi ρ) intPart) fun x => sliceV c d none x) st = _
  unfold M.bind
  cases evE cf a ρ st with
  | ok d st1 =>
    dsimp only [Res.go]
    cases evE cf hi ρ st1 with
    | ok y st2 =>
      dsimp only [Res.go]
      first | done | (cases intPart y st2 <;> rfl)
    | exc _ _ => rfl
    | stuck => rfl
  | exc _ _ => rfl
  | stuck => rfl
theorem slL {xs : List D} {lo hi : Option Int} : sliceV false (.lst xs) lo hi st = .ok (.lst (cut xs lo hi)) st := (rfl)
theorem cut_from {α : Type} {xs : List α} {i : Nat} {a : Int} (ha : a = (i : Int)) : cut xs (some a) none = xs.drop i := by
  subst ha
  unfold cut HT.sIx
  have e1 : ¬ ((i : Int) < 0) := by omega
  simp only [e1, if_false, Int.toNat_natCast]
  by_cases h : i ≤ xs.length
  · rw [Nat.min_eq_left h]
    exact List.take_of_length_le (by rw [List.length_drop]; omega)
  · rw [Nat.min_eq_right (by omega), List.drop_length, List.drop_of_length_le (by omega)]; simp
theorem cut_to {α : Type} {xs : List α} {i : Nat} {a : Int} (ha : a = (i : Int)) : cut xs none (some a) = xs.take i := by
  subst ha
  unfold cut HT.sIx
  have e1 : ¬ ((i : Int) < 0) := by omega
  simp only [e1, if_false, Int.toNat_natCast, List.drop_zero, Nat.sub_zero]
  by_cases h : i ≤ xs.length
  · rw [Nat.min_eq_left h]
  · rw [Nat.min_eq_right (by omega), List.take_length, List.take_of_length_le (by omega)]
theorem cut_last {α : Type} {xs : List α} : cut xs none (some (-1)) = xs.dropLast := by
  unfold cut HT.sIx
  simp only [show ((-1 : Int) < 0) from by decide, if_true, List.drop_zero, Nat.sub_zero]
  rw [List.dropLast_eq_take]
  congr 1
  omega
theorem flat_one {α : Type} {x : α} : ∀ n : Nat, (List.replicate n [x]).flatten = List.replicate n x
  | 0 => rfl
  | n + 1 => by
    rw [List.replicate_succ, List.flatten_cons, flat_one n]; rfl
theorem mulLN {c : Bool} {x : D} {n : Nat} (h : n ≤ 16777216) : mulV c (.lst [x]) (.int (n : Int)) st = mkL c (List.replicate n x) st := by
  show (if small (n : Int) && fits (([x] : List D).length * (n : Int).toNat) then mkL c (List.replicate (n : Int).toNat [x]).flatten st else .stuck) = _
  rw [Int.toNat_natCast, flat_one, small_nat (by omega)]
  unfold fits
  rw [decide_eq_true (show ([x] : List D).length * n ≤ 16777216 by simpa using h)]; rfl
theorem mulTN {c : Bool} {x : D} {n : Nat} (h : n ≤ 1000) : mulV c (.tup [x]) (.int (n : Int)) st = .ok (.tup (List.replicate n x)) st := by
  show (if decide ((n : Int) ≤ 1000) && small (n : Int) && decide (([x] : List D).length = 1) then Res.ok (D.tup (List.replicate (n : Int).toNat [x]).flatten) st else .stuck) = _
  rw [Int.toNat_natCast, flat_one, small_nat (by omega), decide_eq_true (show (n : Int) ≤ 1000 by omega)]; rfl
theorem b_mulV {c : Bool} {a b : D} : biV (.mul c) [a, b] st = mulV c a b st := (rfl)
end
theorem fold_snoc {α β : Type} (f : β → α → β) (b : β) (xs : List α) (x : α) : (xs ++ [x]).foldl f b = f (xs.foldl f b) x := by rw [List.foldl_append]; rfl
end PC
namespace PC
open PySem
section
variable {cf : Nat → List D → M D} {Q : Fl → Store → Prop}
theorem wp_whileM {c : E} {b : S} (I : Nat → Rho → Store → Prop)
    (hs : ∀ k ρ st, I k ρ st → Wp (evE cf c ρ st) fun d st' => ∃ x, d = .bl x ∧ (if x then 0 < k ∧ Wp (evS cf b ρ st') (Turn (I (k - 1)) Q) else Q (.nx ρ) st')) : ∀ (n k : Nat) (ρ : Rho) (st : Store), k < n → I k ρ st → Wp (whileM (fun ρ => evE cf c ρ >>= asBool) (fun ρ => evS cf b ρ) n ρ st) Q
  | 0, k, ρ, st, h, _ => absurd h (Nat.not_lt_zero _)
  | n + 1, k, ρ, st, h, hI => by
    rw [while_step]
    obtain ⟨d, st1, e, x, rfl, hx⟩ := hs k ρ st hI
    rw [bind_go, e, go_ok, asBool_bl, go_ok]
    cases x with
    | false =>
      rw [if_neg (by decide)] at hx ⊢
      exact ⟨_, _, rfl, hx⟩
    | true =>
      rw [if_pos rfl] at hx ⊢
      refine Wp.by_ hx.2 fun f st' t => ?_
      cases f with
      | nx ρ' => exact wp_whileM I hs n (k - 1) ρ' st' (by have := hx.1; omega) t
      | ct ρ' => exact wp_whileM I hs n (k - 1) ρ' st' (by have := hx.1; omega) t
      | bk ρ' => exact ⟨_, _, rfl, t⟩
      | rt d => exact ⟨_, _, rfl, t⟩
/-- while, by how many turns are left at most -/
theorem wp_while {c : E} {b : S} {ρ : Rho} {st : Store} (I : Nat → Rho → Store → Prop) (m : Nat) (hm : m < 1099511627776) (h0 : I m ρ st)
    (hs : ∀ k ρ st, I k ρ st → Wp (evE cf c ρ st) fun d st' => ∃ x, d = .bl x ∧ (if x then 0 < k ∧ Wp (evS cf b ρ st') (Turn (I (k - 1)) Q) else Q (.nx ρ) st')) : Wp (evS cf (.while_ c b) ρ st) Q := by
  rw [eS_while]
  exact wp_whileM I hs fuelW m ρ st hm h0
end
end PC
set_option linter.all false
set_option maxRecDepth 100000
namespace K82
open PySem PC
def c_MOST_ROW : D := (.int 40)
def c_MOST_RECURSION : D := (.int 20)
def n_is_integer : List Str := ["value"]
def b_is_integer : S :=
  (.seq (.ret (.and_ (.bi (.isinst [.int]) (.cons (.var 0) .nil)) (.not_ (.bi (.isinst [.bool]) (.cons (.var 0) .nil))))) .skip)
def d_is_integer : Def := { np := 1, ns := 1, body := b_is_integer }
def n_greatest_common : List Str := ["a", "b"]
def b_greatest_common : S :=
  (.seq (.asg (.tup (.cons (.nm 0) (.cons (.nm 1) .nil))) (.tup (.cons (.bi .abs (.cons (.var 0) .nil)) (.cons (.bi .abs (.cons (.var 1) .nil)) .nil)))) (.seq (.while_ (.bi .ne (.cons (.var 1) (.cons (.cst (.int 0)) .nil))) (.seq (.asg (.tup (.cons (.nm 0) (.cons (.nm 1) .nil))) (.tup (.cons (.var 1) (.cons (.bi .mod (.cons (.var 0) (.cons (.var 1) .nil))) .nil)))) .skip)) (.seq (.ret (.var 0)) .skip)))
def d_greatest_common : Def := { np := 2, ns := 2, body := b_greatest_common }
def n_lowest : List Str := ["n", "d", "g"]
def b_lowest : S :=
  (.seq (.asg (.nm 2) (.call 1 (.cons (.var 0) (.cons (.var 1) .nil)))) (.seq (.ite (.bi .lt (.cons (.var 1) (.cons (.cst (.int 0)) .nil))) (.seq (.asg (.nm 2) (.bi .neg (.cons (.var 2) .nil))) .skip) .skip) (.seq (.ret (.tup (.cons (.bi .fdiv (.cons (.var 0) (.cons (.var 2) .nil))) (.cons (.bi .fdiv (.cons (.var 1) (.cons (.var 2) .nil))) .nil)))) .skip)))
def d_lowest : Def := { np := 2, ns := 3, body := b_lowest }
def n_is_ratio : List Str := ["value"]
def b_is_ratio : S :=
  (.seq (.ite (.or_ (.not_ (.bi (.isinst [.tuple]) (.cons (.var 0) .nil))) (.or_ (.bi .ne (.cons (.bi .len (.cons (.var 0) .nil)) (.cons (.cst (.int 2)) .nil))) (.or_ (.not_ (.call 0 (.cons (.bi .idx (.cons (.var 0) (.cons (.cst (.int 0)) .nil))) .nil))) (.not_ (.call 0 (.cons (.bi .idx (.cons (.var 0) (.cons (.cst (.int 1)) .nil))) .nil)))))) (.seq (.ret (.cst (.bl false))) .skip) .skip) (.seq (.ret (.and_ (.bi .gt (.cons (.bi .idx (.cons (.var 0) (.cons (.cst (.int 1)) .nil))) (.cons (.cst (.int 0)) .nil))) (.bi .eq (.cons (.call 1 (.cons (.bi .idx (.cons (.var 0) (.cons (.cst (.int 0)) .nil))) (.cons (.bi .idx (.cons (.var 0) (.cons (.cst (.int 1)) .nil))) .nil))) (.cons (.cst (.int 1)) .nil))))) .skip))
def d_is_ratio : Def := { np := 1, ns := 1, body := b_is_ratio }
def n_ratio_sum : List Str := ["a", "b"]
def b_ratio_sum : S :=
  (.seq (.ret (.call 2 (.cons (.bi (.add false) (.cons (.bi (.mul false) (.cons (.bi .idx (.cons (.var 0) (.cons (.cst (.int 0)) .nil))) (.cons (.bi .idx (.cons (.var 1) (.cons (.cst (.int 1)) .nil))) .nil))) (.cons (.bi (.mul false) (.cons (.bi .idx (.cons (.var 1) (.cons (.cst (.int 0)) .nil))) (.cons (.bi .idx (.cons (.var 0) (.cons (.cst (.int 1)) .nil))) .nil))) .nil))) (.cons (.bi (.mul false) (.cons (.bi .idx (.cons (.var 0) (.cons (.cst (.int 1)) .nil))) (.cons (.bi .idx (.cons (.var 1) (.cons (.cst (.int 1)) .nil))) .nil))) .nil)))) .skip)
def d_ratio_sum : Def := { np := 2, ns := 2, body := b_ratio_sum }
def n_ratio_less : List Str := ["a", "b"]
def b_ratio_less : S :=
  (.seq (.ret (.call 2 (.cons (.bi .sub (.cons (.bi (.mul false) (.cons (.bi .idx (.cons (.var 0) (.cons (.cst (.int 0)) .nil))) (.cons (.bi .idx (.cons (.var 1) (.cons (.cst (.int 1)) .nil))) .nil))) (.cons (.bi (.mul false) (.cons (.bi .idx (.cons (.var 1) (.cons (.cst (.int 0)) .nil))) (.cons (.bi .idx (.cons (.var 0) (.cons (.cst (.int 1)) .nil))) .nil))) .nil))) (.cons (.bi (.mul false) (.cons (.bi .idx (.cons (.var 0) (.cons (.cst (.int 1)) .nil))) (.cons (.bi .idx (.cons (.var 1) (.cons (.cst (.int 1)) .nil))) .nil))) .nil)))) .skip)
def d_ratio_less : Def := { np := 2, ns := 2, body := b_ratio_less }
def n_ratio_product : List Str := ["a", "b"]
def b_ratio_product : S :=
  (.seq (.ret (.call 2 (.cons (.bi (.mul false) (.cons (.bi .idx (.cons (.var 0) (.cons (.cst (.int 0)) .nil))) (.cons (.bi .idx (.cons (.var 1) (.cons (.cst (.int 0)) .nil))) .nil))) (.cons (.bi (.mul false) (.cons (.bi .idx (.cons (.var 0) (.cons (.cst (.int 1)) .nil))) (.cons (.bi .idx (.cons (.var 1) (.cons (.cst (.int 1)) .nil))) .nil))) .nil)))) .skip)
def d_ratio_product : Def := { np := 2, ns := 2, body := b_ratio_product }
def n_ratio_over : List Str := ["a", "b"]
def b_ratio_over : S :=
  (.seq (.ite (.bi .eq (.cons (.bi .idx (.cons (.var 1) (.cons (.cst (.int 0)) .nil))) (.cons (.cst (.int 0)) .nil))) (.seq (.raise_ 0 (.cst (.str "zero"))) .skip) .skip) (.seq (.ret (.call 2 (.cons (.bi (.mul false) (.cons (.bi .idx (.cons (.var 0) (.cons (.cst (.int 0)) .nil))) (.cons (.bi .idx (.cons (.var 1) (.cons (.cst (.int 1)) .nil))) .nil))) (.cons (.bi (.mul false) (.cons (.bi .idx (.cons (.var 0) (.cons (.cst (.int 1)) .nil))) (.cons (.bi .idx (.cons (.var 1) (.cons (.cst (.int 0)) .nil))) .nil))) .nil)))) .skip))
def d_ratio_over : Def := { np := 2, ns := 2, body := b_ratio_over }
def n_has_form : List Str := ["paper", "word", "size"]
def b_has_form : S :=
  (.seq (.ret (.and_ (.bi (.isinst [.tuple]) (.cons (.var 0) .nil)) (.and_ (.bi .eq (.cons (.bi .len (.cons (.var 0) .nil)) (.cons (.var 2) .nil))) (.and_ (.bi (.isinst [.str]) (.cons (.bi .idx (.cons (.var 0) (.cons (.cst (.int 0)) .nil))) .nil)) (.bi .eq (.cons (.bi .idx (.cons (.var 0) (.cons (.cst (.int 0)) .nil))) (.cons (.var 1) .nil))))))) .skip)
def d_has_form : Def := { np := 3, ns := 3, body := b_has_form }
def n_total_of : List Str := ["items", "found", "c"]
def b_total_of : S :=
  (.seq (.asg (.nm 1) (.tup (.cons (.cst (.int 0)) (.cons (.cst (.int 1)) .nil)))) (.seq (.for_ (.nm 2) (.sq (.var 0)) (.seq (.asg (.nm 1) (.call 4 (.cons (.var 1) (.cons (.var 2) .nil)))) .skip)) (.seq (.ret (.var 1)) .skip)))
def d_total_of : Def := { np := 1, ns := 3, body := b_total_of }
def n_is_row : List Str := ["value", "size", "c"]
def b_is_row : S :=
  (.seq (.ret (.and_ (.bi (.isinst [.tuple]) (.cons (.var 0) .nil)) (.and_ (.bi .eq (.cons (.bi .len (.cons (.var 0) .nil)) (.cons (.var 1) .nil))) (.bi .all (.cons (.comp false (.call 3 (.cons (.var 2) .nil)) [2] true (.sq (.var 0)) (.cst (.bl true))) .nil))))) .skip)
def d_is_row : Def := { np := 2, ns := 3, body := b_is_row }
def n_check_recursion : List Str := ["row", "r", "c"]
def b_check_recursion : S :=
  (.seq (.ite (.or_ (.not_ (.bi (.isinst [.tuple]) (.cons (.var 0) .nil))) (.or_ (.not_ (.chain .le .le (.cst (.int 1)) (.bi .len (.cons (.var 0) .nil)) (.glo c_MOST_ROW))) (.not_ (.bi .all (.cons (.comp false (.call 3 (.cons (.var 2) .nil)) [2] true (.sq (.var 0)) (.cst (.bl true))) .nil))))) (.seq (.raise_ 0 (.cst (.str "no row"))) .skip) .skip) (.seq (.ite (.or_ (.not_ (.call 0 (.cons (.var 1) .nil))) (.or_ (.bi .lt (.cons (.var 1) (.cons (.cst (.int 0)) .nil))) (.bi .gt (.cons (.var 1) (.cons (.glo c_MOST_RECURSION) .nil))))) (.seq (.raise_ 0 (.cst (.str "no order"))) .skip) .skip) .skip))
def d_check_recursion : Def := { np := 2, ns := 3, body := b_check_recursion }
def n_dot : List Str := ["one", "two", "a", "b"]
def b_dot : S :=
  (.seq (.ret (.call 9 (.cons (.comp false (.call 6 (.cons (.var 2) (.cons (.var 3) .nil))) [2, 3] false (.zip (.var 0) (.var 1)) (.cst (.bl true))) .nil))) .skip)
def d_dot : Def := { np := 2, ns := 4, body := b_dot }
def n_takes_recursion : List Str := ["row", "r", "paper", "many", "i", "j"]
def b_takes_recursion : S :=
  (.seq (.ex (.call 11 (.cons (.var 0) (.cons (.var 1) .nil)))) (.seq (.asg (.nm 3) (.bi .max (.cons (.bi .sub (.cons (.bi .len (.cons (.var 0) .nil)) (.cons (.var 1) .nil))) (.cons (.cst (.int 0)) .nil)))) (.seq (.ite (.call 8 (.cons (.var 2) (.cons (.cst (.str "recursion")) (.cons (.cst (.int 2)) .nil)))) (.seq (.ret (.and_ (.call 10 (.cons (.bi .idx (.cons (.var 2) (.cons (.cst (.int 1)) .nil))) (.cons (.var 1) .nil))) (.bi .all (.cons (.comp false (.bi .eq (.cons (.call 12 (.cons (.bi .idx (.cons (.var 2) (.cons (.cst (.int 1)) .nil))) (.cons (.sl false true true (.var 0) (.var 4) (.bi (.add false) (.cons (.var 4) (.cons (.var 1) .nil)))) .nil))) (.cons (.bi .idx (.cons (.var 0) (.cons (.bi (.add false) (.cons (.var 4) (.cons (.var 1) .nil))) .nil))) .nil))) [4] true (.rg1 (.var 3)) (.cst (.bl true))) .nil)))) .skip) .skip) (.seq (.ite (.or_ (.not_ (.call 8 (.cons (.var 2) (.cons (.cst (.str "against")) (.cons (.cst (.int 2)) .nil))))) (.not_ (.call 10 (.cons (.bi .idx (.cons (.var 2) (.cons (.cst (.int 1)) .nil))) (.cons (.var 3) .nil))))) (.seq (.ret (.cst (.bl false))) .skip) .skip) (.seq (.ite (.bi .any (.cons (.comp false (.bi .ne (.cons (.bi .idx (.cons (.call 12 (.cons (.bi .idx (.cons (.var 2) (.cons (.cst (.int 1)) .nil))) (.cons (.sl false true true (.var 0) (.var 5) (.bi (.add false) (.cons (.var 5) (.cons (.var 3) .nil)))) .nil))) (.cons (.cst (.int 0)) .nil))) (.cons (.cst (.int 0)) .nil))) [5] true (.rg1 (.var 1)) (.cst (.bl true))) .nil)) (.seq (.ret (.cst (.bl false))) .skip) .skip) (.seq (.ret (.bi .ne (.cons (.bi .idx (.cons (.call 12 (.cons (.bi .idx (.cons (.var 2) (.cons (.cst (.int 1)) .nil))) (.cons (.sl false true true (.var 0) (.var 1) (.bi (.add false) (.cons (.var 1) (.cons (.var 3) .nil)))) .nil))) (.cons (.cst (.int 0)) .nil))) (.cons (.cst (.int 0)) .nil)))) .skip))))))
def d_takes_recursion : Def := { np := 3, ns := 6, body := b_takes_recursion }
def n_solved : List Str := ["rows", "right", "many", "width", "kept", "i", "own", "at", "other", "c", "heads", "found", "rest", "k", "a", "b"]
def b_solved : S :=
  (.seq (.asg (.tup (.cons (.nm 2) (.cons (.nm 3) .nil))) (.tup (.cons (.bi .len (.cons (.var 0) .nil)) (.cons (.ite (.bi .gt (.cons (.bi .len (.cons (.var 0) .nil)) (.cons (.cst (.int 0)) .nil))) (.bi .len (.cons (.bi .idx (.cons (.var 0) (.cons (.cst (.int 0)) .nil))) .nil)) (.cst (.int 0))) .nil)))) (.seq (.asg (.nm 4) (.lst true .nil)) (.seq (.for_ (.nm 5) (.rg1 (.var 2)) (.seq (.asg (.nm 6) (.bi (.add false) (.cons (.bi (.add false) (.cons (.bi (.list false) (.cons (.bi .idx (.cons (.var 0) (.cons (.var 5) .nil))) .nil)) (.cons (.lst false (.cons (.bi .idx (.cons (.var 1) (.cons (.var 5) .nil))) .nil)) .nil))) (.cons (.comp false (.tup (.cons (.bi .int (.cons (.bi .eq (.cons (.var 13) (.cons (.var 5) .nil))) .nil)) (.cons (.cst (.int 1)) .nil))) [13] true (.rg1 (.var 2)) (.cst (.bl true))) .nil)))) (.seq (.for_ (.tup (.cons (.nm 7) (.cons (.nm 8) .nil))) (.sq (.var 4)) (.seq (.ite (.bi .ne (.cons (.bi .idx (.cons (.bi .idx (.cons (.var 6) (.cons (.var 7) .nil))) (.cons (.cst (.int 0)) .nil))) (.cons (.cst (.int 0)) .nil))) (.seq (.asg (.nm 9) (.bi .idx (.cons (.var 6) (.cons (.var 7) .nil)))) (.seq (.asg (.nm 6) (.comp false (.call 5 (.cons (.var 14) (.cons (.call 6 (.cons (.var 9) (.cons (.var 15) .nil))) .nil))) [14, 15] false (.zip (.var 6) (.var 8)) (.cst (.bl true)))) .skip)) .skip) .skip)) (.seq (.asg (.nm 10) (.comp false (.var 13) [13] true (.rg1 (.var 3)) (.bi .ne (.cons (.bi .idx (.cons (.bi .idx (.cons (.var 6) (.cons (.var 13) .nil))) (.cons (.cst (.int 0)) .nil))) (.cons (.cst (.int 0)) .nil))))) (.seq (.ite (.bi .gt (.cons (.bi .len (.cons (.var 10) .nil)) (.cons (.cst (.int 0)) .nil))) (.seq (.asg (.nm 9) (.bi .idx (.cons (.var 6) (.cons (.bi .idx (.cons (.var 10) (.cons (.cst (.int 0)) .nil))) .nil)))) (.seq (.ex (.mth .append (.var 4) (.cons (.tup (.cons (.bi .idx (.cons (.var 10) (.cons (.cst (.int 0)) .nil))) (.cons (.comp false (.call 7 (.cons (.var 14) (.cons (.var 9) .nil))) [14] true (.sq (.var 6)) (.cst (.bl true))) .nil))) .nil))) .skip)) (.seq (.ite (.bi .ne (.cons (.bi .idx (.cons (.bi .idx (.cons (.var 6) (.cons (.var 3) .nil))) (.cons (.cst (.int 0)) .nil))) (.cons (.cst (.int 0)) .nil))) (.seq (.ret (.tup (.cons (.cst .non) (.cons (.bi .tuple (.cons (.sl false true false (.var 6) (.bi (.add false) (.cons (.var 3) (.cons (.cst (.int 1)) .nil))) .nil) .nil)) .nil)))) .skip) .skip) .skip)) .skip))))) (.seq (.asg (.nm 11) (.bi (.mul true) (.cons (.lst false (.cons (.tup (.cons (.cst (.int 0)) (.cons (.cst (.int 1)) .nil))) .nil)) (.cons (.var 3) .nil)))) (.seq (.for_ (.tup (.cons (.nm 7) (.cons (.nm 6) .nil))) (.sq (.bi (.rev false) (.cons (.var 4) .nil))) (.seq (.asg (.nm 12) (.call 9 (.cons (.comp false (.call 6 (.cons (.bi .idx (.cons (.var 6) (.cons (.var 13) .nil))) (.cons (.bi .idx (.cons (.var 11) (.cons (.var 13) .nil))) .nil))) [13] true (.rg1 (.var 3)) (.bi .ne (.cons (.var 13) (.cons (.var 7) .nil)))) .nil))) (.seq (.asg (.sub (.var 11) (.var 7)) (.call 5 (.cons (.bi .idx (.cons (.var 6) (.cons (.var 3) .nil))) (.cons (.var 12) .nil)))) .skip))) (.seq (.ret (.tup (.cons (.bi .tuple (.cons (.var 11) .nil)) (.cons (.cst .non) .nil)))) .skip))))))
def d_solved : Def := { np := 2, ns := 16, body := b_solved }
def n_recursion_paper : List Str := ["row", "r", "many", "found", "against", "i"]
def b_recursion_paper : S :=
  (.seq (.ex (.call 11 (.cons (.var 0) (.cons (.var 1) .nil)))) (.seq (.asg (.nm 2) (.bi .max (.cons (.bi .sub (.cons (.bi .len (.cons (.var 0) .nil)) (.cons (.var 1) .nil))) (.cons (.cst (.int 0)) .nil)))) (.seq (.ite (.bi .eq (.cons (.var 2) (.cons (.cst (.int 0)) .nil))) (.seq (.ret (.tup (.cons (.cst (.str "recursion")) (.cons (.bi (.mul false) (.cons (.tup (.cons (.tup (.cons (.cst (.int 0)) (.cons (.cst (.int 1)) .nil))) .nil)) (.cons (.var 1) .nil))) .nil)))) .skip) .skip) (.seq (.asg (.tup (.cons (.nm 3) (.cons (.nm 4) .nil))) (.call 14 (.cons (.comp false (.sl false true true (.var 0) (.var 5) (.bi (.add false) (.cons (.var 5) (.cons (.var 1) .nil)))) [5] true (.rg1 (.var 2)) (.cst (.bl true))) (.cons (.bi (.list false) (.cons (.sl false true false (.var 0) (.var 1) .nil) .nil)) .nil)))) (.seq (.ret (.ite (.bi .isNN (.cons (.var 3) .nil)) (.tup (.cons (.cst (.str "recursion")) (.cons (.var 3) .nil))) (.tup (.cons (.cst (.str "against")) (.cons (.var 4) .nil))))) .skip)))))
def d_recursion_paper : Def := { np := 2, ns := 6, body := b_recursion_paper }
def n__law_state : List Str := ["script", "seed", "total", "cell"]
def b__law_state : S :=
  (.seq (.asg (.nm 1) (.cst (.int 0))) (.seq (.asg (.nm 2) (.cst (.int 1))) (.seq (.for_ (.nm 3) (.sq (.sl false false true (.var 0) .nil (.cst (.int 63)))) (.seq (.asg (.nm 1) (.bi (.add false) (.cons (.bi (.mul false) (.cons (.var 1) (.cons (.cst (.int 1000003)) .nil))) (.cons (.bi .abs (.cons (.var 3) .nil)) .nil)))) (.seq (.asg (.nm 2) (.bi .mod (.cons (.bi .int (.cons (.bi (.add false) (.cons (.bi (.mul false) (.cons (.var 2) (.cons (.cst (.int 48271)) .nil))) (.cons (.var 3) .nil))) .nil)) (.cons (.cst (.int 2147483647)) .nil)))) .skip))) (.seq (.ret (.lst true (.cons (.var 1) (.cons (.var 2) .nil)))) .skip))))
def d__law_state : Def := { np := 1, ns := 4, body := b__law_state, keep := true }
def n__law_take : List Str := ["state", "m", "value"]
def b__law_take : S :=
  (.seq (.ite (.bi .gt (.cons (.bi .idx (.cons (.var 0) (.cons (.cst (.int 0)) .nil))) (.cons (.cst (.int 0)) .nil))) (.seq (.asg (.nm 2) (.bi .mod (.cons (.bi .int (.cons (.bi .idx (.cons (.var 0) (.cons (.cst (.int 0)) .nil))) .nil)) (.cons (.var 1) .nil)))) (.seq (.asg (.sub (.var 0) (.cst (.int 0))) (.bi .fdiv (.cons (.bi .idx (.cons (.var 0) (.cons (.cst (.int 0)) .nil))) (.cons (.var 1) .nil)))) (.seq (.ret (.var 2)) .skip))) .skip) (.seq (.asg (.sub (.var 0) (.cst (.int 1))) (.bi .mod (.cons (.bi .int (.cons (.bi (.add false) (.cons (.bi (.mul false) (.cons (.bi .idx (.cons (.var 0) (.cons (.cst (.int 1)) .nil))) (.cons (.cst (.int 48271)) .nil))) (.cons (.cst (.int 11)) .nil))) .nil)) (.cons (.cst (.int 2147483647)) .nil)))) (.seq (.ret (.bi .mod (.cons (.bi .int (.cons (.bi .fdiv (.cons (.bi .idx (.cons (.var 0) (.cons (.cst (.int 1)) .nil))) (.cons (.cst (.int 7)) .nil))) .nil)) (.cons (.var 1) .nil)))) .skip)))
def d__law_take : Def := { np := 2, ns := 3, body := b__law_take }
def n__law_says : List Str := ["value", "due"]
def b__law_says : S :=
  (.seq (.ret (.and_ (.bi (.isinst [.bool]) (.cons (.var 0) .nil)) (.bi .eq (.cons (.var 0) (.cons (.var 1) .nil))))) .skip)
def d__law_says : Def := { np := 2, ns := 2, body := b__law_says }
def n__law_same : List Str := ["value", "due", "k"]
def b__law_same : S :=
  (.seq (.ite (.bi (.isinst [.tuple]) (.cons (.var 1) .nil)) (.seq (.ret (.and_ (.bi (.isinst [.tuple]) (.cons (.var 0) .nil)) (.and_ (.bi .eq (.cons (.bi .len (.cons (.var 0) .nil)) (.cons (.bi .len (.cons (.var 1) .nil)) .nil))) (.bi .all (.cons (.comp false (.call 19 (.cons (.bi .idx (.cons (.var 0) (.cons (.var 2) .nil))) (.cons (.bi .idx (.cons (.var 1) (.cons (.var 2) .nil))) .nil))) [2] true (.rg1 (.bi .len (.cons (.var 1) .nil))) (.cst (.bl true))) .nil))))) .skip) .skip) (.seq (.ite (.bi .isN (.cons (.var 1) .nil)) (.seq (.ret (.bi .isN (.cons (.var 0) .nil))) .skip) .skip) (.seq (.ite (.bi (.isinst [.bool]) (.cons (.var 1) .nil)) (.seq (.ret (.and_ (.bi (.isinst [.bool]) (.cons (.var 0) .nil)) (.bi .eq (.cons (.var 0) (.cons (.var 1) .nil))))) .skip) .skip) (.seq (.ite (.bi (.isinst [.str]) (.cons (.var 1) .nil)) (.seq (.ret (.and_ (.bi (.isinst [.str]) (.cons (.var 0) .nil)) (.bi .eq (.cons (.var 0) (.cons (.var 1) .nil))))) .skip) .skip) (.seq (.ret (.and_ (.bi (.isinst [.int]) (.cons (.var 0) .nil)) (.and_ (.not_ (.bi (.isinst [.bool]) (.cons (.var 0) .nil))) (.bi .eq (.cons (.var 0) (.cons (.var 1) .nil)))))) .skip)))))
def d__law_same : Def := { np := 2, ns := 3, body := b__law_same }
def n__law_told : List Str := ["f", "given", "error"]
def b__law_told : S :=
  (.seq (.try_ (.seq (.ite (.bi .eq (.cons (.bi .len (.cons (.var 1) .nil)) (.cons (.cst (.int 1)) .nil))) (.seq (.ret (.tup (.cons (.cst (.str "told")) (.cons (.callv (.var 0) (.cons (.bi .idx (.cons (.var 1) (.cons (.cst (.int 0)) .nil))) .nil)) .nil)))) .skip) .skip) (.seq (.ite (.bi .eq (.cons (.bi .len (.cons (.var 1) .nil)) (.cons (.cst (.int 2)) .nil))) (.seq (.ret (.tup (.cons (.cst (.str "told")) (.cons (.callv (.var 0) (.cons (.bi .idx (.cons (.var 1) (.cons (.cst (.int 0)) .nil))) (.cons (.bi .idx (.cons (.var 1) (.cons (.cst (.int 1)) .nil))) .nil))) .nil)))) .skip) .skip) (.seq (.ite (.bi .eq (.cons (.bi .len (.cons (.var 1) .nil)) (.cons (.cst (.int 3)) .nil))) (.seq (.ret (.tup (.cons (.cst (.str "told")) (.cons (.callv (.var 0) (.cons (.bi .idx (.cons (.var 1) (.cons (.cst (.int 0)) .nil))) (.cons (.bi .idx (.cons (.var 1) (.cons (.cst (.int 1)) .nil))) (.cons (.bi .idx (.cons (.var 1) (.cons (.cst (.int 2)) .nil))) .nil)))) .nil)))) .skip) .skip) (.seq (.ret (.tup (.cons (.cst (.str "told")) (.cons (.callv (.var 0) (.cons (.bi .idx (.cons (.var 1) (.cons (.cst (.int 0)) .nil))) (.cons (.bi .idx (.cons (.var 1) (.cons (.cst (.int 1)) .nil))) (.cons (.bi .idx (.cons (.var 1) (.cons (.cst (.int 2)) .nil))) (.cons (.bi .idx (.cons (.var 1) (.cons (.cst (.int 3)) .nil))) .nil))))) .nil)))) .skip)))) 0 (.tup [(.str "raised"), (.str "malformed")])) .skip)
def d__law_told : Def := { np := 2, ns := 3, body := b__law_told }
def n__law_is_raised : List Str := ["pair", "reason"]
def b__law_is_raised : S :=
  (.seq (.ret (.and_ (.bi .eq (.cons (.bi .idx (.cons (.var 0) (.cons (.cst (.int 0)) .nil))) (.cons (.cst (.str "raised")) .nil))) (.call 19 (.cons (.bi .idx (.cons (.var 0) (.cons (.cst (.int 1)) .nil))) (.cons (.var 1) .nil))))) .skip)
def d__law_is_raised : Def := { np := 2, ns := 2, body := b__law_is_raised }
def n__law_strange : List Str := ["state", "data", "whole", "pick"]
def b__law_strange : S :=
  (.seq (.asg (.nm 2) (.and_ (.bi (.isinst [.int]) (.cons (.var 1) .nil)) (.not_ (.bi (.isinst [.bool]) (.cons (.var 1) .nil))))) (.seq (.asg (.nm 3) (.call 17 (.cons (.var 0) (.cons (.cst (.int 11)) .nil)))) (.seq (.ite (.bi .eq (.cons (.var 3) (.cons (.cst (.int 0)) .nil))) (.seq (.ret (.tup .nil)) .skip) .skip) (.seq (.ite (.and_ (.bi .lt (.cons (.var 3) (.cons (.cst (.int 3)) .nil))) (.var 2)) (.seq (.ret (.bi .sub (.cons (.bi (.add false) (.cons (.var 1) (.cons (.bi (.mul false) (.cons (.cst (.int 2)) (.cons (.var 3) .nil))) .nil))) (.cons (.cst (.int 3)) .nil)))) .skip) .skip) (.seq (.ite (.and_ (.bi .eq (.cons (.var 3) (.cons (.cst (.int 3)) .nil))) (.var 2)) (.seq (.ret (.bi .idx (.cons (.lst false (.cons (.cst (.bl true)) (.cons (.cst (.bl false)) (.cons (.bi .neg (.cons (.var 1) .nil)) (.cons (.bi .str (.cons (.var 1) .nil)) (.cons (.tup (.cons (.var 1) .nil)) (.cons (.cst .non) .nil))))))) (.cons (.call 17 (.cons (.var 0) (.cons (.cst (.int 6)) .nil))) .nil)))) .skip) .skip) (.seq (.ite (.and_ (.bi .eq (.cons (.var 3) (.cons (.cst (.int 4)) .nil))) (.bi (.isinst [.tuple]) (.cons (.var 1) .nil))) (.seq (.ret (.bi (.list false) (.cons (.var 1) .nil))) .skip) .skip) (.seq (.ite (.and_ (.bi .eq (.cons (.var 3) (.cons (.cst (.int 5)) .nil))) (.bi (.isinst [.tuple]) (.cons (.var 1) .nil))) (.seq (.ret (.sl false false true (.var 1) .nil (.bi .neg (.cons (.cst (.int 1)) .nil)))) .skip) .skip) (.seq (.ite (.and_ (.bi .eq (.cons (.var 3) (.cons (.cst (.int 6)) .nil))) (.bi (.isinst [.tuple]) (.cons (.var 1) .nil))) (.seq (.ret (.bi (.add false) (.cons (.var 1) (.cons (.sl false false true (.var 1) .nil (.cst (.int 1))) .nil)))) .skip) .skip) (.seq (.ite (.and_ (.bi .eq (.cons (.var 3) (.cons (.cst (.int 7)) .nil))) (.bi (.isinst [.tuple]) (.cons (.var 1) .nil))) (.seq (.ret (.bi (.rev false) (.cons (.var 1) .nil))) .skip) .skip) (.seq (.ite (.bi .eq (.cons (.var 3) (.cons (.cst (.int 8)) .nil))) (.seq (.ret (.bi .idx (.cons (.lst false (.cons (.cst (.str "point")) (.cons (.cst (.str "fact")) (.cons (.cst (.str "map")) (.cons (.cst (.str "none")) (.cons (.cst (.str "operation")) (.cons (.cst (.str "formula")) (.cons (.cst (.str "back")) (.cons (.cst (.str "stuck")) .nil))))))))) (.cons (.call 17 (.cons (.var 0) (.cons (.cst (.int 8)) .nil))) .nil)))) .skip) .skip) (.seq (.ite (.bi .eq (.cons (.var 3) (.cons (.cst (.int 9)) .nil))) (.seq (.ret (.call 17 (.cons (.var 0) (.cons (.cst (.int 4)) .nil)))) .skip) .skip) (.seq (.ret (.cst .non)) .skip))))))))))))
def d__law_strange : Def := { np := 2, ns := 4, body := b__law_strange }
def n__law_bent : List Str := ["state", "data", "depth", "k"]
def b__law_bent : S :=
  (.seq (.ite (.or_ (.not_ (.bi (.isinst [.tuple]) (.cons (.var 1) .nil))) (.or_ (.bi .eq (.cons (.bi .len (.cons (.var 1) .nil)) (.cons (.cst (.int 0)) .nil))) (.or_ (.bi .gt (.cons (.var 2) (.cons (.cst (.int 7)) .nil))) (.bi .eq (.cons (.call 17 (.cons (.var 0) (.cons (.cst (.int 6)) .nil))) (.cons (.cst (.int 0)) .nil)))))) (.seq (.ret (.call 22 (.cons (.var 0) (.cons (.var 1) .nil)))) .skip) .skip) (.seq (.asg (.nm 3) (.call 17 (.cons (.var 0) (.cons (.bi .len (.cons (.var 1) .nil)) .nil)))) (.seq (.ret (.bi (.add false) (.cons (.bi (.add false) (.cons (.sl false false true (.var 1) .nil (.var 3)) (.cons (.tup (.cons (.call 23 (.cons (.var 0) (.cons (.bi .idx (.cons (.var 1) (.cons (.var 3) .nil))) (.cons (.bi (.add false) (.cons (.var 2) (.cons (.cst (.int 1)) .nil))) .nil)))) .nil)) .nil))) (.cons (.sl false true false (.var 1) (.bi (.add false) (.cons (.var 3) (.cons (.cst (.int 1)) .nil))) .nil) .nil)))) .skip)))
def d__law_bent : Def := { np := 3, ns := 4, body := b__law_bent }
def n__law_frac : List Str := ["n", "d", "a", "b"]
def b__law_frac : S :=
  (.seq (.asg (.tup (.cons (.nm 2) (.cons (.nm 3) .nil))) (.tup (.cons (.bi .abs (.cons (.var 0) .nil)) (.cons (.bi .abs (.cons (.var 1) .nil)) .nil)))) (.seq (.while_ (.bi .ne (.cons (.var 3) (.cons (.cst (.int 0)) .nil))) (.seq (.asg (.tup (.cons (.nm 2) (.cons (.nm 3) .nil))) (.tup (.cons (.var 3) (.cons (.bi .mod (.cons (.bi .int (.cons (.var 2) .nil)) (.cons (.var 3) .nil))) .nil)))) .skip)) (.seq (.asg (.nm 2) (.ite (.bi .gt (.cons (.var 1) (.cons (.cst (.int 0)) .nil))) (.var 2) (.bi .neg (.cons (.var 2) .nil)))) (.seq (.ret (.tup (.cons (.bi .fdiv (.cons (.var 0) (.cons (.var 2) .nil))) (.cons (.bi .fdiv (.cons (.var 1) (.cons (.var 2) .nil))) .nil)))) .skip))))
def d__law_frac : Def := { np := 2, ns := 4, body := b__law_frac }
def n__law_add : List Str := ["x", "y"]
def b__law_add : S :=
  (.seq (.ret (.call 24 (.cons (.bi (.add false) (.cons (.bi (.mul false) (.cons (.bi .idx (.cons (.var 0) (.cons (.cst (.int 0)) .nil))) (.cons (.bi .idx (.cons (.var 1) (.cons (.cst (.int 1)) .nil))) .nil))) (.cons (.bi (.mul false) (.cons (.bi .idx (.cons (.var 1) (.cons (.cst (.int 0)) .nil))) (.cons (.bi .idx (.cons (.var 0) (.cons (.cst (.int 1)) .nil))) .nil))) .nil))) (.cons (.bi (.mul false) (.cons (.bi .idx (.cons (.var 0) (.cons (.cst (.int 1)) .nil))) (.cons (.bi .idx (.cons (.var 1) (.cons (.cst (.int 1)) .nil))) .nil))) .nil)))) .skip)
def d__law_add : Def := { np := 2, ns := 2, body := b__law_add }
def n__law_mul : List Str := ["x", "y"]
def b__law_mul : S :=
  (.seq (.ret (.call 24 (.cons (.bi (.mul false) (.cons (.bi .idx (.cons (.var 0) (.cons (.cst (.int 0)) .nil))) (.cons (.bi .idx (.cons (.var 1) (.cons (.cst (.int 0)) .nil))) .nil))) (.cons (.bi (.mul false) (.cons (.bi .idx (.cons (.var 0) (.cons (.cst (.int 1)) .nil))) (.cons (.bi .idx (.cons (.var 1) (.cons (.cst (.int 1)) .nil))) .nil))) .nil)))) .skip)
def d__law_mul : Def := { np := 2, ns := 2, body := b__law_mul }
def n__law_neg : List Str := ["x"]
def b__law_neg : S :=
  (.seq (.ret (.tup (.cons (.bi .neg (.cons (.bi .idx (.cons (.var 0) (.cons (.cst (.int 0)) .nil))) .nil)) (.cons (.bi .idx (.cons (.var 0) (.cons (.cst (.int 1)) .nil))) .nil)))) .skip)
def d__law_neg : Def := { np := 1, ns := 1, body := b__law_neg }
def n__law_over : List Str := ["x", "y"]
def b__law_over : S :=
  (.seq (.ret (.call 24 (.cons (.bi (.mul false) (.cons (.bi .idx (.cons (.var 0) (.cons (.cst (.int 0)) .nil))) (.cons (.bi .idx (.cons (.var 1) (.cons (.cst (.int 1)) .nil))) .nil))) (.cons (.bi (.mul false) (.cons (.bi .idx (.cons (.var 0) (.cons (.cst (.int 1)) .nil))) (.cons (.bi .idx (.cons (.var 1) (.cons (.cst (.int 0)) .nil))) .nil))) .nil)))) .skip)
def d__law_over : Def := { np := 2, ns := 2, body := b__law_over }
def n__law_drawn : List Str := ["state"]
def b__law_drawn : S :=
  (.seq (.ret (.call 24 (.cons (.bi .sub (.cons (.call 17 (.cons (.var 0) (.cons (.cst (.int 13)) .nil))) (.cons (.cst (.int 6)) .nil))) (.cons (.bi (.add false) (.cons (.cst (.int 1)) (.cons (.call 17 (.cons (.var 0) (.cons (.cst (.int 4)) .nil))) .nil))) .nil)))) .skip)
def d__law_drawn : Def := { np := 1, ns := 1, body := b__law_drawn }
def n__law_row : List Str := ["state", "n", "k"]
def b__law_row : S :=
  (.seq (.ret (.bi .tuple (.cons (.comp false (.call 29 (.cons (.var 0) .nil)) [2] true (.rg1 (.var 1)) (.cst (.bl true))) .nil))) .skip)
def d__law_row : Def := { np := 2, ns := 3, body := b__law_row }
def n__law_is_ratio : List Str := ["value", "item"]
def b__law_is_ratio : S :=
  (.seq (.ite (.or_ (.not_ (.bi (.isinst [.tuple]) (.cons (.var 0) .nil))) (.bi .ne (.cons (.bi .len (.cons (.var 0) .nil)) (.cons (.cst (.int 2)) .nil)))) (.seq (.ret (.cst (.bl false))) .skip) .skip) (.seq (.for_ (.nm 1) (.sq (.var 0)) (.seq (.ite (.or_ (.not_ (.bi (.isinst [.int]) (.cons (.var 1) .nil))) (.bi (.isinst [.bool]) (.cons (.var 1) .nil))) (.seq (.ret (.cst (.bl false))) .skip) .skip) .skip)) (.seq (.ret (.and_ (.bi .gt (.cons (.bi .idx (.cons (.var 0) (.cons (.cst (.int 1)) .nil))) (.cons (.cst (.int 0)) .nil))) (.bi .eq (.cons (.call 24 (.cons (.bi .idx (.cons (.var 0) (.cons (.cst (.int 0)) .nil))) (.cons (.bi .idx (.cons (.var 0) (.cons (.cst (.int 1)) .nil))) .nil))) (.cons (.var 0) .nil))))) .skip)))
def d__law_is_ratio : Def := { np := 1, ns := 2, body := b__law_is_ratio }
def n__law_is_ratios : List Str := ["value", "count", "item"]
def b__law_is_ratios : S :=
  (.seq (.ret (.and_ (.bi (.isinst [.tuple]) (.cons (.var 0) .nil)) (.and_ (.bi .eq (.cons (.bi .len (.cons (.var 0) .nil)) (.cons (.var 1) .nil))) (.bi .all (.cons (.comp false (.call 31 (.cons (.var 2) .nil)) [2] true (.sq (.var 0)) (.cst (.bl true))) .nil))))) .skip)
def d__law_is_ratios : Def := { np := 2, ns := 3, body := b__law_is_ratios }
def n__law_dot : List Str := ["one", "two", "total", "k"]
def b__law_dot : S :=
  (.seq (.asg (.nm 2) (.tup (.cons (.cst (.int 0)) (.cons (.cst (.int 1)) .nil)))) (.seq (.for_ (.nm 3) (.rg1 (.bi .len (.cons (.var 0) .nil))) (.seq (.asg (.nm 2) (.call 25 (.cons (.var 2) (.cons (.call 26 (.cons (.bi .idx (.cons (.var 0) (.cons (.var 3) .nil))) (.cons (.bi .idx (.cons (.var 1) (.cons (.var 3) .nil))) .nil))) .nil)))) .skip)) (.seq (.ret (.var 2)) .skip)))
def d__law_dot : Def := { np := 2, ns := 4, body := b__law_dot }
def n__law_holds : List Str := ["row", "r", "paper", "count", "j", "i"]
def b__law_holds : S :=
  (.seq (.asg (.nm 3) (.bi .max (.cons (.bi .sub (.cons (.bi .len (.cons (.var 0) .nil)) (.cons (.var 1) .nil))) (.cons (.cst (.int 0)) .nil)))) (.seq (.ite (.or_ (.not_ (.bi (.isinst [.tuple]) (.cons (.var 2) .nil))) (.or_ (.bi .ne (.cons (.bi .len (.cons (.var 2) .nil)) (.cons (.cst (.int 2)) .nil))) (.not_ (.bi (.isinst [.str]) (.cons (.bi .idx (.cons (.var 2) (.cons (.cst (.int 0)) .nil))) .nil))))) (.seq (.ret (.cst (.bl false))) .skip) .skip) (.seq (.ite (.bi .eq (.cons (.bi .idx (.cons (.var 2) (.cons (.cst (.int 0)) .nil))) (.cons (.cst (.str "recursion")) .nil))) (.seq (.ite (.not_ (.call 32 (.cons (.bi .idx (.cons (.var 2) (.cons (.cst (.int 1)) .nil))) (.cons (.var 1) .nil)))) (.seq (.ret (.cst (.bl false))) .skip) .skip) (.seq (.ret (.bi .all (.cons (.comp false (.bi .eq (.cons (.call 33 (.cons (.bi .idx (.cons (.var 2) (.cons (.cst (.int 1)) .nil))) (.cons (.sl false true true (.var 0) (.var 5) (.bi (.add false) (.cons (.var 5) (.cons (.var 1) .nil)))) .nil))) (.cons (.bi .idx (.cons (.var 0) (.cons (.bi (.add false) (.cons (.var 5) (.cons (.var 1) .nil))) .nil))) .nil))) [5] true (.rg1 (.var 3)) (.cst (.bl true))) .nil))) .skip)) .skip) (.seq (.ite (.or_ (.bi .ne (.cons (.bi .idx (.cons (.var 2) (.cons (.cst (.int 0)) .nil))) (.cons (.cst (.str "against")) .nil))) (.not_ (.call 32 (.cons (.bi .idx (.cons (.var 2) (.cons (.cst (.int 1)) .nil))) (.cons (.var 3) .nil))))) (.seq (.ret (.cst (.bl false))) .skip) .skip) (.seq (.for_ (.nm 4) (.rg1 (.var 1)) (.seq (.ite (.bi .ne (.cons (.bi .idx (.cons (.call 33 (.cons (.bi .idx (.cons (.var 2) (.cons (.cst (.int 1)) .nil))) (.cons (.sl false true true (.var 0) (.var 4) (.bi (.add false) (.cons (.var 4) (.cons (.var 3) .nil)))) .nil))) (.cons (.cst (.int 0)) .nil))) (.cons (.cst (.int 0)) .nil))) (.seq (.ret (.cst (.bl false))) .skip) .skip) .skip)) (.seq (.ret (.bi .ne (.cons (.bi .idx (.cons (.call 33 (.cons (.bi .idx (.cons (.var 2) (.cons (.cst (.int 1)) .nil))) (.cons (.sl false true true (.var 0) (.var 1) (.bi (.add false) (.cons (.var 1) (.cons (.var 3) .nil)))) .nil))) (.cons (.cst (.int 0)) .nil))) (.cons (.cst (.int 0)) .nil)))) .skip))))))
def d__law_holds : Def := { np := 3, ns := 6, body := b__law_holds }
def n__law_solvable : List Str := ["row", "r", "rows", "at", "j", "found", "k", "c", "i", "own"]
def b__law_solvable : S :=
  (.seq (.asg (.nm 2) (.comp true (.bi (.list false) (.cons (.sl false true true (.var 0) (.var 8) (.bi (.add false) (.cons (.bi (.add false) (.cons (.var 8) (.cons (.var 1) .nil))) (.cons (.cst (.int 1)) .nil)))) .nil)) [8] true (.rg1 (.bi .max (.cons (.bi .sub (.cons (.bi .len (.cons (.var 0) .nil)) (.cons (.var 1) .nil))) (.cons (.cst (.int 0)) .nil)))) (.cst (.bl true)))) (.seq (.asg (.nm 3) (.cst (.int 0))) (.seq (.for_ (.nm 4) (.rg1 (.var 1)) (.seq (.asg (.nm 5) (.comp false (.var 6) [6] true (.rg2 (.var 3) (.bi .len (.cons (.var 2) .nil))) (.bi .ne (.cons (.bi .idx (.cons (.bi .idx (.cons (.bi .idx (.cons (.var 2) (.cons (.var 6) .nil))) (.cons (.var 4) .nil))) (.cons (.cst (.int 0)) .nil))) (.cons (.cst (.int 0)) .nil))))) (.seq (.ite (.bi .gt (.cons (.bi .len (.cons (.var 5) .nil)) (.cons (.cst (.int 0)) .nil))) (.seq (.asg (.tup (.cons (.sub (.var 2) (.var 3)) (.cons (.sub (.var 2) (.bi .idx (.cons (.var 5) (.cons (.cst (.int 0)) .nil)))) .nil))) (.tup (.cons (.bi .idx (.cons (.var 2) (.cons (.bi .idx (.cons (.var 5) (.cons (.cst (.int 0)) .nil))) .nil))) (.cons (.bi .idx (.cons (.var 2) (.cons (.var 3) .nil))) .nil)))) (.seq (.for_ (.nm 6) (.rg2 (.bi (.add false) (.cons (.var 3) (.cons (.cst (.int 1)) .nil))) (.bi .len (.cons (.var 2) .nil))) (.seq (.asg (.nm 7) (.call 28 (.cons (.bi .idx (.cons (.bi .idx (.cons (.var 2) (.cons (.var 6) .nil))) (.cons (.var 4) .nil))) (.cons (.bi .idx (.cons (.bi .idx (.cons (.var 2) (.cons (.var 3) .nil))) (.cons (.var 4) .nil))) .nil)))) (.seq (.asg (.sub (.var 2) (.var 6)) (.comp false (.call 25 (.cons (.bi .idx (.cons (.bi .idx (.cons (.var 2) (.cons (.var 6) .nil))) (.cons (.var 8) .nil))) (.cons (.call 27 (.cons (.call 26 (.cons (.var 7) (.cons (.bi .idx (.cons (.bi .idx (.cons (.var 2) (.cons (.var 3) .nil))) (.cons (.var 8) .nil))) .nil))) .nil)) .nil))) [8] true (.rg1 (.bi (.add false) (.cons (.var 1) (.cons (.cst (.int 1)) .nil)))) (.cst (.bl true)))) .skip))) (.seq (.asg (.nm 3) (.bi (.add false) (.cons (.var 3) (.cons (.cst (.int 1)) .nil)))) .skip))) .skip) .skip))) (.seq (.ret (.bi .eq (.cons (.bi .len (.cons (.comp false (.var 9) [9] true (.sq (.sl false true false (.var 2) (.var 3) .nil)) (.bi .ne (.cons (.bi .idx (.cons (.bi .idx (.cons (.var 9) (.cons (.var 1) .nil))) (.cons (.cst (.int 0)) .nil))) (.cons (.cst (.int 0)) .nil)))) .nil)) (.cons (.cst (.int 0)) .nil)))) .skip))))
def d__law_solvable : Def := { np := 2, ns := 10, body := b__law_solvable }
def n__law_made : List Str := ["state", "r", "size", "row", "c"]
def b__law_made : S :=
  (.seq (.asg (.nm 3) (.bi (.list true) (.cons (.call 30 (.cons (.var 0) (.cons (.bi .min (.cons (.var 1) (.cons (.var 2) .nil))) .nil))) .nil))) (.seq (.asg (.nm 4) (.call 30 (.cons (.var 0) (.cons (.var 1) .nil)))) (.seq (.while_ (.bi .lt (.cons (.bi .len (.cons (.var 3) .nil)) (.cons (.var 2) .nil))) (.seq (.ex (.mth .append (.var 3) (.cons (.call 33 (.cons (.var 4) (.cons (.ite (.bi .gt (.cons (.var 1) (.cons (.cst (.int 0)) .nil))) (.sl false true false (.var 3) (.bi .sub (.cons (.bi .len (.cons (.var 3) .nil)) (.cons (.var 1) .nil))) .nil) (.lst false .nil)) .nil))) .nil))) .skip)) (.seq (.ret (.tup (.cons (.bi .tuple (.cons (.var 3) .nil)) (.cons (.var 4) .nil)))) .skip))))
def d__law_made : Def := { np := 3, ns := 5, body := b__law_made }
def n_law : List Str := ["script", "state", "r", "size", "row", "c", "told", "count", "papers", "turn", "paper", "bad", "k", "item"]
def b_law : S :=
  (.seq (.asg (.nm 1) (.call 16 (.cons (.var 0) .nil))) (.seq (.asg (.tup (.cons (.nm 2) (.cons (.nm 3) .nil))) (.tup (.cons (.call 17 (.cons (.var 1) (.cons (.cst (.int 7)) .nil))) (.cons (.bi (.add false) (.cons (.cst (.int 1)) (.cons (.call 17 (.cons (.var 1) (.cons (.cst (.int 12)) .nil))) .nil))) .nil)))) (.seq (.ite (.bi .eq (.cons (.call 17 (.cons (.var 1) (.cons (.cst (.int 8)) .nil))) (.cons (.cst (.int 0)) .nil))) (.seq (.asg (.tup (.cons (.nm 2) (.cons (.nm 3) .nil))) (.tup (.cons (.call 17 (.cons (.var 1) (.cons (.cst (.int 21)) .nil))) (.cons (.bi (.add false) (.cons (.cst (.int 30)) (.cons (.call 17 (.cons (.var 1) (.cons (.cst (.int 11)) .nil))) .nil))) .nil)))) (.seq (.asg (.tup (.cons (.nm 4) (.cons (.nm 5) .nil))) (.tup (.cons (.bi .tuple (.cons (.comp false (.call 24 (.cons (.bi (.add false) (.cons (.cst (.int 1)) (.cons (.bi .mod (.cons (.bi .int (.cons (.bi (.add false) (.cons (.bi (.mul false) (.cons (.var 12) (.cons (.var 12) .nil))) (.cons (.cst (.int 3)) .nil))) .nil)) (.cons (.cst (.int 7)) .nil))) .nil))) (.cons (.cst (.int 1)) .nil))) [12] true (.rg1 (.var 3)) (.cst (.bl true))) .nil)) (.cons (.call 30 (.cons (.var 1) (.cons (.var 2) .nil))) .nil)))) .skip)) (.seq (.ite (.bi .eq (.cons (.call 17 (.cons (.var 1) (.cons (.cst (.int 2)) .nil))) (.cons (.cst (.int 0)) .nil))) (.seq (.asg (.tup (.cons (.nm 4) (.cons (.nm 5) .nil))) (.call 36 (.cons (.var 1) (.cons (.var 2) (.cons (.var 3) .nil))))) .skip) (.seq (.asg (.tup (.cons (.nm 4) (.cons (.nm 5) .nil))) (.tup (.cons (.call 30 (.cons (.var 1) (.cons (.var 3) .nil))) (.cons (.call 30 (.cons (.var 1) (.cons (.var 2) .nil))) .nil)))) .skip)) .skip)) (.seq (.asg (.nm 6) (.call 20 (.cons (.fnv 15) (.cons (.tup (.cons (.var 4) (.cons (.var 2) .nil))) .nil)))) (.seq (.ite (.or_ (.bi .ne (.cons (.bi .idx (.cons (.var 6) (.cons (.cst (.int 0)) .nil))) (.cons (.cst (.str "told")) .nil))) (.or_ (.not_ (.call 34 (.cons (.var 4) (.cons (.var 2) (.cons (.bi .idx (.cons (.var 6) (.cons (.cst (.int 1)) .nil))) .nil))))) (.bi .ne (.cons (.bi .idx (.cons (.bi .idx (.cons (.var 6) (.cons (.cst (.int 1)) .nil))) (.cons (.cst (.int 0)) .nil))) (.cons (.ite (.call 35 (.cons (.var 4) (.cons (.var 2) .nil))) (.cst (.str "recursion")) (.cst (.str "against"))) .nil))))) (.seq (.ret (.cst (.bl false))) .skip) .skip) (.seq (.asg (.nm 7) (.bi .max (.cons (.bi .sub (.cons (.var 3) (.cons (.var 2) .nil))) (.cons (.cst (.int 0)) .nil)))) (.seq (.asg (.nm 8) (.lst true (.cons (.bi .idx (.cons (.var 6) (.cons (.cst (.int 1)) .nil))) (.cons (.tup (.cons (.cst (.str "recursion")) (.cons (.var 5) .nil))) (.cons (.tup (.cons (.cst (.str "recursion")) (.cons (.bi (.mul false) (.cons (.tup (.cons (.tup (.cons (.cst (.int 0)) (.cons (.cst (.int 1)) .nil))) .nil)) (.cons (.var 2) .nil))) .nil))) (.cons (.tup (.cons (.cst (.str "against")) (.cons (.bi (.mul false) (.cons (.tup (.cons (.tup (.cons (.cst (.int 0)) (.cons (.cst (.int 1)) .nil))) .nil)) (.cons (.var 7) .nil))) .nil))) (.cons (.tup (.cons (.cst (.str "against")) (.cons (.bi (.mul false) (.cons (.tup (.cons (.tup (.cons (.cst (.int 1)) (.cons (.cst (.int 1)) .nil))) .nil)) (.cons (.var 7) .nil))) .nil))) (.cons (.tup (.cons (.cst (.str "against")) (.cons (.tup .nil) .nil))) (.cons (.tup (.cons (.cst (.str "recursion")) (.cons (.tup .nil) .nil))) (.cons (.cst .non) (.cons (.cst (.int 5)) (.cons (.tup .nil) (.cons (.cst (.str "against")) .nil))))))))))))) (.seq (.asg (.nm 8) (.bi (.add true) (.cons (.var 8) (.cons (.lst false (.cons (.bi (.list false) (.cons (.bi .idx (.cons (.var 6) (.cons (.cst (.int 1)) .nil))) .nil)) (.cons (.bi (.add false) (.cons (.bi .idx (.cons (.var 6) (.cons (.cst (.int 1)) .nil))) (.cons (.tup (.cons (.cst (.int 0)) .nil)) .nil))) (.cons (.tup (.cons (.bi .idx (.cons (.bi .idx (.cons (.var 6) (.cons (.cst (.int 1)) .nil))) (.cons (.cst (.int 0)) .nil))) .nil)) (.cons (.tup (.cons (.bi .idx (.cons (.bi .idx (.cons (.var 6) (.cons (.cst (.int 1)) .nil))) (.cons (.cst (.int 0)) .nil))) (.cons (.bi (.list false) (.cons (.bi .idx (.cons (.bi .idx (.cons (.var 6) (.cons (.cst (.int 1)) .nil))) (.cons (.cst (.int 1)) .nil))) .nil)) .nil))) (.cons (.tup (.cons (.bi .idx (.cons (.bi .idx (.cons (.var 6) (.cons (.cst (.int 1)) .nil))) (.cons (.cst (.int 0)) .nil))) (.cons (.bi (.rev false) (.cons (.bi .idx (.cons (.bi .idx (.cons (.var 6) (.cons (.cst (.int 1)) .nil))) (.cons (.cst (.int 1)) .nil))) .nil)) .nil))) .nil)))))) .nil)))) (.seq (.asg (.nm 8) (.bi (.add true) (.cons (.var 8) (.cons (.lst false (.cons (.tup (.cons (.bi .idx (.cons (.bi .idx (.cons (.var 6) (.cons (.cst (.int 1)) .nil))) (.cons (.cst (.int 0)) .nil))) (.cons (.bi (.add false) (.cons (.bi .idx (.cons (.bi .idx (.cons (.var 6) (.cons (.cst (.int 1)) .nil))) (.cons (.cst (.int 1)) .nil))) (.cons (.tup (.cons (.tup (.cons (.cst (.int 0)) (.cons (.cst (.int 1)) .nil))) .nil)) .nil))) .nil))) (.cons (.tup (.cons (.bi .idx (.cons (.bi .idx (.cons (.var 6) (.cons (.cst (.int 1)) .nil))) (.cons (.cst (.int 0)) .nil))) (.cons (.sl false false true (.bi .idx (.cons (.bi .idx (.cons (.var 6) (.cons (.cst (.int 1)) .nil))) (.cons (.cst (.int 1)) .nil))) .nil (.bi .neg (.cons (.cst (.int 1)) .nil))) .nil))) .nil))) .nil)))) (.seq (.ex (.mth .append (.var 8) (.cons (.tup (.cons (.bi .idx (.cons (.bi .idx (.cons (.var 6) (.cons (.cst (.int 1)) .nil))) (.cons (.cst (.int 0)) .nil))) (.cons (.bi .tuple (.cons (.comp false (.call 26 (.cons (.var 13) (.cons (.tup (.cons (.cst (.int 2)) (.cons (.cst (.int 1)) .nil))) .nil))) [13] true (.sq (.bi .idx (.cons (.bi .idx (.cons (.var 6) (.cons (.cst (.int 1)) .nil))) (.cons (.cst (.int 1)) .nil)))) (.cst (.bl true))) .nil)) .nil))) .nil))) (.seq (.for_ (.nm 9) (.rg1 (.cst (.int 10))) (.seq (.ex (.mth .append (.var 8) (.cons (.call 23 (.cons (.var 1) (.cons (.bi .idx (.cons (.var 6) (.cons (.cst (.int 1)) .nil))) (.cons (.cst (.int 0)) .nil)))) .nil))) .skip)) (.seq (.for_ (.nm 10) (.sq (.var 8)) (.seq (.ite (.not_ (.call 18 (.cons (.call 13 (.cons (.var 4) (.cons (.var 2) (.cons (.var 10) .nil)))) (.cons (.call 34 (.cons (.var 4) (.cons (.var 2) (.cons (.var 10) .nil)))) .nil)))) (.seq (.ret (.cst (.bl false))) .skip) .skip) .skip)) (.seq (.for_ (.nm 11) (.sq (.lst false (.cons (.tup (.cons (.tup .nil) (.cons (.cst (.int 1)) .nil))) (.cons (.tup (.cons (.cst .non) (.cons (.cst (.int 1)) .nil))) (.cons (.tup (.cons (.cst (.int 5)) (.cons (.cst (.int 1)) .nil))) (.cons (.tup (.cons (.bi (.list false) (.cons (.var 4) .nil)) (.cons (.cst (.int 1)) .nil))) (.cons (.tup (.cons (.tup (.cons (.tup (.cons (.cst (.int 2)) (.cons (.cst (.int 4)) .nil))) .nil)) (.cons (.cst (.int 1)) .nil))) (.cons (.tup (.cons (.tup (.cons (.cst (.int 1)) .nil)) (.cons (.cst (.int 1)) .nil))) (.cons (.tup (.cons (.bi (.mul false) (.cons (.tup (.cons (.tup (.cons (.cst (.int 1)) (.cons (.cst (.int 1)) .nil))) .nil)) (.cons (.cst (.int 41)) .nil))) (.cons (.cst (.int 1)) .nil))) (.cons (.tup (.cons (.var 4) (.cons (.bi .neg (.cons (.cst (.int 1)) .nil)) .nil))) (.cons (.tup (.cons (.var 4) (.cons (.cst (.int 21)) .nil))) (.cons (.tup (.cons (.var 4) (.cons (.cst .non) .nil))) (.cons (.tup (.cons (.var 4) (.cons (.cst (.bl true)) .nil))) (.cons (.tup (.cons (.var 4) (.cons (.cst (.str "1")) .nil))) .nil)))))))))))))) (.seq (.ite (.or_ (.not_ (.call 21 (.cons (.call 20 (.cons (.fnv 15) (.cons (.var 11) .nil))) (.cons (.cst (.str "malformed")) .nil)))) (.not_ (.call 21 (.cons (.call 20 (.cons (.fnv 13) (.cons (.bi (.add false) (.cons (.var 11) (.cons (.tup (.cons (.cst .non) .nil)) .nil))) .nil))) (.cons (.cst (.str "malformed")) .nil))))) (.seq (.ret (.cst (.bl false))) .skip) .skip) .skip)) (.seq (.ret (.cst (.bl true))) .skip))))))))))))))
def d_law : Def := { np := 1, ns := 14, body := b_law }
def tbl : Nat → Option Def
  | 0 => some d_is_integer
  | 1 => some d_greatest_common
  | 2 => some d_lowest
  | 3 => some d_is_ratio
  | 4 => some d_ratio_sum
  | 5 => some d_ratio_less
  | 6 => some d_ratio_product
  | 7 => some d_ratio_over
  | 8 => some d_has_form
  | 9 => some d_total_of
  | 10 => some d_is_row
  | 11 => some d_check_recursion
  | 12 => some d_dot
  | 13 => some d_takes_recursion
  | 14 => some d_solved
  | 15 => some d_recursion_paper
  | 16 => some d__law_state
  | 17 => some d__law_take
  | 18 => some d__law_says
  | 19 => some d__law_same
  | 20 => some d__law_told
  | 21 => some d__law_is_raised
  | 22 => some d__law_strange
  | 23 => some d__law_bent
  | 24 => some d__law_frac
  | 25 => some d__law_add
  | 26 => some d__law_mul
  | 27 => some d__law_neg
  | 28 => some d__law_over
  | 29 => some d__law_drawn
  | 30 => some d__law_row
  | 31 => some d__law_is_ratio
  | 32 => some d__law_is_ratios
  | 33 => some d__law_dot
  | 34 => some d__law_holds
  | 35 => some d__law_solvable
  | 36 => some d__law_made
  | 37 => some d_law
  | _ => none
abbrev i_is_integer : Nat := 0
abbrev i_greatest_common : Nat := 1
abbrev i_lowest : Nat := 2
abbrev i_is_ratio : Nat := 3
abbrev i_ratio_sum : Nat := 4
abbrev i_ratio_less : Nat := 5
abbrev i_ratio_product : Nat := 6
abbrev i_ratio_over : Nat := 7
abbrev i_has_form : Nat := 8
abbrev i_total_of : Nat := 9
abbrev i_is_row : Nat := 10
abbrev i_check_recursion : Nat := 11
abbrev i_dot : Nat := 12
abbrev i_takes_recursion : Nat := 13
abbrev i_solved : Nat := 14
abbrev i_recursion_paper : Nat := 15
abbrev i__law_state : Nat := 16
abbrev i__law_take : Nat := 17
abbrev i__law_says : Nat := 18
abbrev i__law_same : Nat := 19
abbrev i__law_told : Nat := 20
abbrev i__law_is_raised : Nat := 21
abbrev i__law_strange : Nat := 22
abbrev i__law_bent : Nat := 23
abbrev i__law_frac : Nat := 24
abbrev i__law_add : Nat := 25
abbrev i__law_mul : Nat := 26
abbrev i__law_neg : Nat := 27
abbrev i__law_over : Nat := 28
abbrev i__law_drawn : Nat := 29
abbrev i__law_row : Nat := 30
abbrev i__law_is_ratio : Nat := 31
abbrev i__law_is_ratios : Nat := 32
abbrev i__law_dot : Nat := 33
abbrev i__law_holds : Nat := 34
abbrev i__law_solvable : Nat := 35
abbrev i__law_made : Nat := 36
abbrev i_law : Nat := 37
end K82
set_option Elab.async false
set_option linter.all false
set_option maxRecDepth 100000
set_option maxHeartbeats 0
namespace K82
open PySem PySem.Spec L2 PC
abbrev Pg : Program := PySem.Challenge.pw_momentroads_k82_whole_papers_of_recursio
def top (i : Nat) : Stmt := Pg.main.body.getD i (.Pass ⟨0, 0, 0, 0⟩)
def e_is_integer : DE := ⟨"is_integer", top 5, n_is_integer, ["value"], d_is_integer⟩
def e_greatest_common : DE := ⟨"greatest_common", top 6, n_greatest_common, ["a", "b"], d_greatest_common⟩
def e_lowest : DE := ⟨"lowest", top 7, n_lowest, ["n", "d"], d_lowest⟩
def e_is_ratio : DE := ⟨"is_ratio", top 8, n_is_ratio, ["value"], d_is_ratio⟩
def e_ratio_sum : DE := ⟨"ratio_sum", top 9, n_ratio_sum, ["a", "b"], d_ratio_sum⟩
def e_ratio_less : DE := ⟨"ratio_less", top 10, n_ratio_less, ["a", "b"], d_ratio_less⟩
def e_ratio_product : DE := ⟨"ratio_product", top 11, n_ratio_product, ["a", "b"], d_ratio_product⟩
def e_ratio_over : DE := ⟨"ratio_over", top 12, n_ratio_over, ["a", "b"], d_ratio_over⟩
def e_has_form : DE := ⟨"has_form", top 16, n_has_form, ["paper", "word", "size"], d_has_form⟩
def e_total_of : DE := ⟨"total_of", top 17, n_total_of, ["items"], d_total_of⟩
def e_is_row : DE := ⟨"is_row", top 18, n_is_row, ["value", "size"], d_is_row⟩
def e_check_recursion : DE := ⟨"check_recursion", top 19, n_check_recursion, ["row", "r"], d_check_recursion⟩
def e_dot : DE := ⟨"dot", top 20, n_dot, ["one", "two"], d_dot⟩
def e_takes_recursion : DE := ⟨"takes_recursion", top 21, n_takes_recursion, ["row", "r", "paper"], d_takes_recursion⟩
def e_solved : DE := ⟨"solved", top 23, n_solved, ["rows", "right"], d_solved⟩
def e_recursion_paper : DE := ⟨"recursion_paper", top 24, n_recursion_paper, ["row", "r"], d_recursion_paper⟩
def e__law_state : DE := ⟨"_law_state", top 26, n__law_state, ["script"], d__law_state⟩
def e__law_take : DE := ⟨"_law_take", top 27, n__law_take, ["state", "m"], d__law_take⟩
def e__law_says : DE := ⟨"_law_says", top 28, n__law_says, ["value", "due"], d__law_says⟩
def e__law_same : DE := ⟨"_law_same", top 29, n__law_same, ["value", "due"], d__law_same⟩
def e__law_told : DE := ⟨"_law_told", top 30, n__law_told, ["f", "given"], d__law_told⟩
def e__law_is_raised : DE := ⟨"_law_is_raised", top 31, n__law_is_raised, ["pair", "reason"], d__law_is_raised⟩
def e__law_strange : DE := ⟨"_law_strange", top 32, n__law_strange, ["state", "data"], d__law_strange⟩
def e__law_bent : DE := ⟨"_law_bent", top 33, n__law_bent, ["state", "data", "depth"], d__law_bent⟩
def e__law_frac : DE := ⟨"_law_frac", top 34, n__law_frac, ["n", "d"], d__law_frac⟩
def e__law_add : DE := ⟨"_law_add", top 35, n__law_add, ["x", "y"], d__law_add⟩
def e__law_mul : DE := ⟨"_law_mul", top 36, n__law_mul, ["x", "y"], d__law_mul⟩
def e__law_neg : DE := ⟨"_law_neg", top 37, n__law_neg, ["x"], d__law_neg⟩
def e__law_over : DE := ⟨"_law_over", top 38, n__law_over, ["x", "y"], d__law_over⟩
def e__law_drawn : DE := ⟨"_law_drawn", top 39, n__law_drawn, ["state"], d__law_drawn⟩
def e__law_row : DE := ⟨"_law_row", top 40, n__law_row, ["state", "n"], d__law_row⟩
def e__law_is_ratio : DE := ⟨"_law_is_ratio", top 41, n__law_is_ratio, ["value"], d__law_is_ratio⟩
def e__law_is_ratios : DE := ⟨"_law_is_ratios", top 42, n__law_is_ratios, ["value", "count"], d__law_is_ratios⟩
def e__law_dot : DE := ⟨"_law_dot", top 43, n__law_dot, ["one", "two"], d__law_dot⟩
def e__law_holds : DE := ⟨"_law_holds", top 44, n__law_holds, ["row", "r", "paper"], d__law_holds⟩
def e__law_solvable : DE := ⟨"_law_solvable", top 45, n__law_solvable, ["row", "r"], d__law_solvable⟩
def e__law_made : DE := ⟨"_law_made", top 46, n__law_made, ["state", "r", "size"], d__law_made⟩
def e_law : DE := ⟨"law", top 47, n_law, ["script"], d_law⟩
def mo : Mo := ⟨[e_is_integer, e_greatest_common, e_lowest, e_is_ratio, e_ratio_sum, e_ratio_less, e_ratio_product, e_ratio_over, e_has_form, e_total_of, e_is_row, e_check_recursion, e_dot, e_takes_recursion, e_solved, e_recursion_paper, e__law_state, e__law_take, e__law_says, e__law_same, e__law_told, e__law_is_raised, e__law_strange, e__law_bent, e__law_frac, e__law_add, e__law_mul, e__law_neg, e__law_over, e__law_drawn, e__law_row, e__law_is_ratio, e__law_is_ratios, e__law_dot, e__law_holds, e__law_solvable, e__law_made, e_law],
  [("MOST_ROW", 40), ("MOST_RECURSION", 20)],
  ["max", "any", "range", "isinstance", "tuple", "bool", "str", "list", "int", "abs", "all", "len", "min", "super", "zip"], ["Malformed"]⟩
theorem ok_is_integer : e_is_integer.Ok mo.tab := { chk := by decide +kernel, sc := ⟨rfl, rfl, rfl, by decide +kernel, rfl, by decide +kernel, by decide +kernel⟩, ns := rfl, np := rfl, le := by decide, bind := fun _ _ _ _ _ _ us hl => match us, hl with | [_], _ => rfl }
theorem ok_greatest_common : e_greatest_common.Ok mo.tab := { chk := by decide +kernel, sc := ⟨rfl, rfl, rfl, by decide +kernel, rfl, by decide +kernel, by decide +kernel⟩, ns := rfl, np := rfl, le := by decide, bind := fun _ _ _ _ _ _ us hl => match us, hl with | [_, _], _ => rfl }
theorem ok_lowest : e_lowest.Ok mo.tab := { chk := by decide +kernel, sc := ⟨rfl, rfl, rfl, by decide +kernel, rfl, by decide +kernel, by decide +kernel⟩, ns := rfl, np := rfl, le := by decide, bind := fun _ _ _ _ _ _ us hl => match us, hl with | [_, _], _ => rfl }
theorem ok_is_ratio : e_is_ratio.Ok mo.tab := { chk := by decide +kernel, sc := ⟨rfl, rfl, rfl, by decide +kernel, rfl, by decide +kernel, by decide +kernel⟩, ns := rfl, np := rfl, le := by decide, bind := fun _ _ _ _ _ _ us hl => match us, hl with | [_], _ => rfl }
theorem ok_ratio_sum : e_ratio_sum.Ok mo.tab := { chk := by decide +kernel, sc := ⟨rfl, rfl, rfl, by decide +kernel, rfl, by decide +kernel, by decide +kernel⟩, ns := rfl, np := rfl, le := by decide, bind := fun _ _ _ _ _ _ us hl => match us, hl with | [_, _], _ => rfl }
theorem ok_ratio_less : e_ratio_less.Ok mo.tab := { chk := by decide +kernel, sc := ⟨rfl, rfl, rfl, by decide +kernel, rfl, by decide +kernel, by decide +kernel⟩, ns := rfl, np := rfl, le := by decide, bind := fun _ _ _ _ _ _ us hl => match us, hl with | [_, _], _ => rfl }
theorem ok_ratio_product : e_ratio_product.Ok mo.tab := { chk := by decide +kernel, sc := ⟨rfl, rfl, rfl, by decide +kernel, rfl, by decide +kernel, by decide +kernel⟩, ns := rfl, np := rfl, le := by decide, bind := fun _ _ _ _ _ _ us hl => match us, hl with | [_, _], _ => rfl }
theorem ok_ratio_over : e_ratio_over.Ok mo.tab := { chk := by decide +kernel, sc := ⟨rfl, rfl, rfl, by decide +kernel, rfl, by decide +kernel, by decide +kernel⟩, ns := rfl, np := rfl, le := by decide, bind := fun _ _ _ _ _ _ us hl => match us, hl with | [_, _], _ => rfl }
theorem ok_has_form : e_has_form.Ok mo.tab := { chk := by decide +kernel, sc := ⟨rfl, rfl, rfl, by decide +kernel, rfl, by decide +kernel, by decide +kernel⟩, ns := rfl, np := rfl, le := by decide, bind := fun _ _ _ _ _ _ us hl => match us, hl with | [_, _, _], _ => rfl }
theorem ok_total_of : e_total_of.Ok mo.tab := { chk := by decide +kernel, sc := ⟨rfl, rfl, rfl, by decide +kernel, rfl, by decide +kernel, by decide +kernel⟩, ns := rfl, np := rfl, le := by decide, bind := fun _ _ _ _ _ _ us hl => match us, hl with | [_], _ => rfl }
theorem ok_is_row : e_is_row.Ok mo.tab := { chk := by decide +kernel, sc := ⟨rfl, rfl, rfl, by decide +kernel, rfl, by decide +kernel, by decide +kernel⟩, ns := rfl, np := rfl, le := by decide, bind := fun _ _ _ _ _ _ us hl => match us, hl with | [_, _], _ => rfl }
theorem ok_check_recursion : e_check_recursion.Ok mo.tab := { chk := by decide +kernel, sc := ⟨rfl, rfl, rfl, by decide +kernel, rfl, by decide +kernel, by decide +kernel⟩, ns := rfl, np := rfl, le := by decide, bind := fun _ _ _ _ _ _ us hl => match us, hl with | [_, _], _ => rfl }
theorem ok_dot : e_dot.Ok mo.tab := { chk := by decide +kernel, sc := ⟨rfl, rfl, rfl, by decide +kernel, rfl, by decide +kernel, by decide +kernel⟩, ns := rfl, np := rfl, le := by decide, bind := fun _ _ _ _ _ _ us hl => match us, hl with | [_, _], _ => rfl }
theorem ok_takes_recursion : e_takes_recursion.Ok mo.tab := { chk := by decide +kernel, sc := ⟨rfl, rfl, rfl, by decide +kernel, rfl, by decide +kernel, by decide +kernel⟩, ns := rfl, np := rfl, le := by decide, bind := fun _ _ _ _ _ _ us hl => match us, hl with | [_, _, _], _ => rfl }
theorem ok_solved : e_solved.Ok mo.tab := { chk := by decide +kernel, sc := ⟨rfl, rfl, rfl, by decide +kernel, rfl, by decide +kernel, by decide +kernel⟩, ns := rfl, np := rfl, le := by decide, bind := fun _ _ _ _ _ _ us hl => match us, hl with | [_, _], _ => rfl }
theorem ok_recursion_paper : e_recursion_paper.Ok mo.tab := { chk := by decide +kernel, sc := ⟨rfl, rfl, rfl, by decide +kernel, rfl, by decide +kernel, by decide +kernel⟩, ns := rfl, np := rfl, le := by decide, bind := fun _ _ _ _ _ _ us hl => match us, hl with | [_, _], _ => rfl }
theorem ok__law_state : e__law_state.Ok mo.tab := { chk := by decide +kernel, sc := ⟨rfl, rfl, rfl, by decide +kernel, rfl, by decide +kernel, by decide +kernel⟩, ns := rfl, np := rfl, le := by decide, bind := fun _ _ _ _ _ _ us hl => match us, hl with | [_], _ => rfl }
theorem ok__law_take : e__law_take.Ok mo.tab := { chk := by decide +kernel, sc := ⟨rfl, rfl, rfl, by decide +kernel, rfl, by decide +kernel, by decide +kernel⟩, ns := rfl, np := rfl, le := by decide, bind := fun _ _ _ _ _ _ us hl => match us, hl with | [_, _], _ => rfl }
theorem ok__law_says : e__law_says.Ok mo.tab := { chk := by decide +kernel, sc := ⟨rfl, rfl, rfl, by decide +kernel, rfl, by decide +kernel, by decide +kernel⟩, ns := rfl, np := rfl, le := by decide, bind := fun _ _ _ _ _ _ us hl => match us, hl with | [_, _], _ => rfl }
theorem ok__law_same : e__law_same.Ok mo.tab := { chk := by decide +kernel, sc := ⟨rfl, rfl, rfl, by decide +kernel, rfl, by decide +kernel, by decide +kernel⟩, ns := rfl, np := rfl, le := by decide, bind := fun _ _ _ _ _ _ us hl => match us, hl with | [_, _], _ => rfl }
theorem ok__law_told : e__law_told.Ok mo.tab := { chk := by decide +kernel, sc := ⟨rfl, rfl, rfl, by decide +kernel, rfl, by decide +kernel, by decide +kernel⟩, ns := rfl, np := rfl, le := by decide, bind := fun _ _ _ _ _ _ us hl => match us, hl with | [_, _], _ => rfl }
theorem ok__law_is_raised : e__law_is_raised.Ok mo.tab := { chk := by decide +kernel, sc := ⟨rfl, rfl, rfl, by decide +kernel, rfl, by decide +kernel, by decide +kernel⟩, ns := rfl, np := rfl, le := by decide, bind := fun _ _ _ _ _ _ us hl => match us, hl with | [_, _], _ => rfl }
theorem ok__law_strange : e__law_strange.Ok mo.tab := { chk := by decide +kernel, sc := ⟨rfl, rfl, rfl, by decide +kernel, rfl, by decide +kernel, by decide +kernel⟩, ns := rfl, np := rfl, le := by decide, bind := fun _ _ _ _ _ _ us hl => match us, hl with | [_, _], _ => rfl }
theorem ok__law_bent : e__law_bent.Ok mo.tab := { chk := by decide +kernel, sc := ⟨rfl, rfl, rfl, by decide +kernel, rfl, by decide +kernel, by decide +kernel⟩, ns := rfl, np := rfl, le := by decide, bind := fun _ _ _ _ _ _ us hl => match us, hl with | [_, _, _], _ => rfl }
theorem ok__law_frac : e__law_frac.Ok mo.tab := { chk := by decide +kernel, sc := ⟨rfl, rfl, rfl, by decide +kernel, rfl, by decide +kernel, by decide +kernel⟩, ns := rfl, np := rfl, le := by decide, bind := fun _ _ _ _ _ _ us hl => match us, hl with | [_, _], _ => rfl }
theorem ok__law_add : e__law_add.Ok mo.tab := { chk := by decide +kernel, sc := ⟨rfl, rfl, rfl, by decide +kernel, rfl, by decide +kernel, by decide +kernel⟩, ns := rfl, np := rfl, le := by decide, bind := fun _ _ _ _ _ _ us hl => match us, hl with | [_, _], _ => rfl }
theorem ok__law_mul : e__law_mul.Ok mo.tab := { chk := by decide +kernel, sc := ⟨rfl, rfl, rfl, by decide +kernel, rfl, by decide +kernel, by decide +kernel⟩, ns := rfl, np := rfl, le := by decide, bind := fun _ _ _ _ _ _ us hl => match us, hl with | [_, _], _ => rfl }
theorem ok__law_neg : e__law_neg.Ok mo.tab := { chk := by decide +kernel, sc := ⟨rfl, rfl, rfl, by decide +kernel, rfl, by decide +kernel, by decide +kernel⟩, ns := rfl, np := rfl, le := by decide, bind := fun _ _ _ _ _ _ us hl => match us, hl with | [_], _ => rfl }
theorem ok__law_over : e__law_over.Ok mo.tab := { chk := by decide +kernel, sc := ⟨rfl, rfl, rfl, by decide +kernel, rfl, by decide +kernel, by decide +kernel⟩, ns := rfl, np := rfl, le := by decide, bind := fun _ _ _ _ _ _ us hl => match us, hl with | [_, _], _ => rfl }
theorem ok__law_drawn : e__law_drawn.Ok mo.tab := { chk := by decide +kernel, sc := ⟨rfl, rfl, rfl, by decide +kernel, rfl, by decide +kernel, by decide +kernel⟩, ns := rfl, np := rfl, le := by decide, bind := fun _ _ _ _ _ _ us hl => match us, hl with | [_], _ => rfl }
theorem ok__law_row : e__law_row.Ok mo.tab := { chk := by decide +kernel, sc := ⟨rfl, rfl, rfl, by decide +kernel, rfl, by decide +kernel, by decide +kernel⟩, ns := rfl, np := rfl, le := by decide, bind := fun _ _ _ _ _ _ us hl => match us, hl with | [_, _], _ => rfl }
theorem ok__law_is_ratio : e__law_is_ratio.Ok mo.tab := { chk := by decide +kernel, sc := ⟨rfl, rfl, rfl, by decide +kernel, rfl, by decide +kernel, by decide +kernel⟩, ns := rfl, np := rfl, le := by decide, bind := fun _ _ _ _ _ _ us hl => match us, hl with | [_], _ => rfl }
theorem ok__law_is_ratios : e__law_is_ratios.Ok mo.tab := { chk := by decide +kernel, sc := ⟨rfl, rfl, rfl, by decide +kernel, rfl, by decide +kernel, by decide +kernel⟩, ns := rfl, np := rfl, le := by decide, bind := fun _ _ _ _ _ _ us hl => match us, hl with | [_, _], _ => rfl }
theorem ok__law_dot : e__law_dot.Ok mo.tab := { chk := by decide +kernel, sc := ⟨rfl, rfl, rfl, by decide +kernel, rfl, by decide +kernel, by decide +kernel⟩, ns := rfl, np := rfl, le := by decide, bind := fun _ _ _ _ _ _ us hl => match us, hl with | [_, _], _ => rfl }
theorem ok__law_holds : e__law_holds.Ok mo.tab := { chk := by decide +kernel, sc := ⟨rfl, rfl, rfl, by decide +kernel, rfl, by decide +kernel, by decide +kernel⟩, ns := rfl, np := rfl, le := by decide, bind := fun _ _ _ _ _ _ us hl => match us, hl with | [_, _, _], _ => rfl }
theorem ok__law_solvable : e__law_solvable.Ok mo.tab := { chk := by decide +kernel, sc := ⟨rfl, rfl, rfl, by decide +kernel, rfl, by decide +kernel, by decide +kernel⟩, ns := rfl, np := rfl, le := by decide, bind := fun _ _ _ _ _ _ us hl => match us, hl with | [_, _], _ => rfl }
theorem ok__law_made : e__law_made.Ok mo.tab := { chk := by decide +kernel, sc := ⟨rfl, rfl, rfl, by decide +kernel, rfl, by decide +kernel, by decide +kernel⟩, ns := rfl, np := rfl, le := by decide, bind := fun _ _ _ _ _ _ us hl => match us, hl with | [_, _, _], _ => rfl }
theorem ok_law : e_law.Ok mo.tab := { chk := by decide +kernel, sc := ⟨rfl, rfl, rfl, by decide +kernel, rfl, by decide +kernel, by decide +kernel⟩, ns := rfl, np := rfl, le := by decide, bind := fun _ _ _ _ _ _ us hl => match us, hl with | [_], _ => rfl }
theorem mo_ok : mo.Ok := ⟨(List.forall_mem_cons.mpr ⟨ok_is_integer, (List.forall_mem_cons.mpr ⟨ok_greatest_common, (List.forall_mem_cons.mpr ⟨ok_lowest, (List.forall_mem_cons.mpr ⟨ok_is_ratio, (List.forall_mem_cons.mpr ⟨ok_ratio_sum, (List.forall_mem_cons.mpr ⟨ok_ratio_less, (List.forall_mem_cons.mpr ⟨ok_ratio_product, (List.forall_mem_cons.mpr ⟨ok_ratio_over, (List.forall_mem_cons.mpr ⟨ok_has_form, (List.forall_mem_cons.mpr ⟨ok_total_of, (List.forall_mem_cons.mpr ⟨ok_is_row, (List.forall_mem_cons.mpr ⟨ok_check_recursion, (List.forall_mem_cons.mpr ⟨ok_dot, (List.forall_mem_cons.mpr ⟨ok_takes_recursion, (List.forall_mem_cons.mpr ⟨ok_solved, (List.forall_mem_cons.mpr ⟨ok_recursion_paper, (List.forall_mem_cons.mpr ⟨ok__law_state, (List.forall_mem_cons.mpr ⟨ok__law_take, (List.forall_mem_cons.mpr ⟨ok__law_says, (List.forall_mem_cons.mpr ⟨ok__law_same, (List.forall_mem_cons.mpr ⟨ok__law_told, (List.forall_mem_cons.mpr ⟨ok__law_is_raised, (List.forall_mem_cons.mpr ⟨ok__law_strange, (List.forall_mem_cons.mpr ⟨ok__law_bent, (List.forall_mem_cons.mpr ⟨ok__law_frac, (List.forall_mem_cons.mpr ⟨ok__law_add, (List.forall_mem_cons.mpr ⟨ok__law_mul, (List.forall_mem_cons.mpr ⟨ok__law_neg, (List.forall_mem_cons.mpr ⟨ok__law_over, (List.forall_mem_cons.mpr ⟨ok__law_drawn, (List.forall_mem_cons.mpr ⟨ok__law_row, (List.forall_mem_cons.mpr ⟨ok__law_is_ratio, (List.forall_mem_cons.mpr ⟨ok__law_is_ratios, (List.forall_mem_cons.mpr ⟨ok__law_dot, (List.forall_mem_cons.mpr ⟨ok__law_holds, (List.forall_mem_cons.mpr ⟨ok__law_solvable, (List.forall_mem_cons.mpr ⟨ok__law_made, (List.forall_mem_cons.mpr ⟨ok_law, (fun _ h => nomatch h)⟩)⟩)⟩)⟩)⟩)⟩)⟩)⟩)⟩)⟩)⟩)⟩)⟩)⟩)⟩)⟩)⟩)⟩)⟩)⟩)⟩)⟩)⟩)⟩)⟩)⟩)⟩)⟩)⟩)⟩)⟩)⟩)⟩)⟩)⟩)⟩)⟩)⟩)⟩
def nm0 : List Str := ["__name__", "Fault", "Malformed", "Refused", "is_integer", "greatest_common", "lowest", "is_ratio", "ratio_sum", "ratio_less", "ratio_product", "ratio_over", "MOST_ROW", "MOST_RECURSION", "has_form", "total_of", "is_row", "check_recursion", "dot", "takes_recursion", "solved", "recursion_paper", "_law_state", "_law_take", "_law_says", "_law_same", "_law_told", "_law_is_raised", "_law_strange", "_law_bent"]
def nm1 : List Str := ["_law_frac", "_law_add", "_law_mul", "_law_neg", "_law_over", "_law_drawn", "_law_row", "_law_is_ratio", "_law_is_ratios", "_law_dot", "_law_holds", "_law_solvable", "_law_made"]
def names : List Str := nm0 ++ nm1
abbrev R : PySem.W.OpenRow := PySem.W.OpenLaw.row PySem.Challenge.rw_momentroads_k82_whole_papers_of_recursio
abbrev hk : PySem.W.Hook := He.hookD 6 mo.facts mo.defs
def ob (s : PySem.W.SharedT) : He.AlD := He.obsDG 6 mo.facts mo.defs (HandSHeadRun.getT s)
theorem ob_eq (s : PySem.W.SharedT) : ob s = hk.obs s.abs := He.obsDG_eq (HandSHeadRun.getT_eq s)
theorem run (w : World) : HandSHeadRun.RunEq R (PySem.W.view R.prog [47]) hk ob 6000 names w := by
  intro os
  kernel_rfl
end K82
set_option Elab.async false
set_option linter.all false
set_option maxRecDepth 100000
set_option maxHeartbeats 0
namespace K82
open PySem PySem.Spec L2 PC PySem.W PySem.Calls PyProof.Rows
theorem holds (law : ∀ ns : List Int, ns.length ≤ 63 → (∀ z ∈ ns, Builtin.Int.intBits z ≤ 1048576) → callF mo.tab.tbl 200 i_law [scriptD ns] [] = .ok (.bl true) []) : PySem.Challenge.rw_momentroads_k82_whole_papers_of_recursio.Holds := by
  w_on; o_law
  refine HandSHeadRun.head_any (r := OpenLaw.row PySem.Challenge.rw_momentroads_k82_whole_papers_of_recursio) (q := view (OpenLaw.row PySem.Challenge.rw_momentroads_k82_whole_papers_of_recursio).prog [47]) (H := hk) (ob := ob) (M := 6000) (loose := names) (d := HandSHeadRun.topDef (OpenLaw.row PySem.Challenge.rw_momentroads_k82_whole_papers_of_recursio).prog 47) (kwd := []) ob_eq
    (by kernel_rfl) (fun s => by kernel_rfl) run (by kernel_rfl) (by kernel_rfl) (by kernel_rfl) (by rfl) (by first | assumption | decide +kernel) (by decide +kernel) ⟨rfl, rfl, rfl, rfl, rfl, by decide +kernel⟩ ?hw ?hc
  case hw => w_witness2
  case hc => exact mo_walk (e := e_law) (x := "script") mo_ok rfl rfl (by kernel_rfl) rfl (by decide) (by kernel_rfl) ⟨rfl, by decide, by decide⟩ law
end K82
set_option Elab.async false
set_option linter.all false
set_option maxRecDepth 100000
set_option maxHeartbeats 1000000
namespace K82
open PySem PC
/-- tame: of at most 100000 bits -/
def Tm (i : Int) : Prop := i.natAbs < 2 ^ 100000
theorem absI_eq (i : Int) : absI i = (i.natAbs : Nat) := by unfold absI; split <;> omega
theorem items2 {a b : D} {st : Store} : itemsM (lenT (.cons (.nm 0) (.cons (.nm 1) .nil))) (.tup [a, b]) st = .ok [a, b] st := rfl
theorem gcd_call (k : Nat) (a b : Int) (st : Store) (hb : Tm b) : callF tbl (k + 1) i_greatest_common [.int a, .int b] st = .ok (.int (Int.gcd a b : Nat)) st := by
  refine call_ret (d := d_greatest_common) rfl rfl rfl ?_ rfl
  show evS (callF tbl k) b_greatest_common [some (.int a), some (.int b)] st = _
  simp only [b_greatest_common, eS_seq, eS_skip, eS_ret, eS_ex, eS_asg, eS_ite, eS_raise, eE_call, eE_bi, eE_var, eE_cst, eE_glo, eE_fnv, eE_tup, eE_lst, eE_and, eE_or, eE_not, eE_ite, eE_mth, eE_chain, eE_sl, intP, slT, eA_cons, eA_nil, eT_nm, eT_tup, eT_cons, eT_nil, go_ok, go_exc, go_stuck, gv0, gvS, List.set_cons_zero, List.set_cons_succ, b_add, b_sub, b_mul, b_fdiv, b_mod, b_neg, b_abs, b_lt, b_le, b_gt, b_ge, b_eqI, b_neI, b_max, b_min, asBool_bl, mkTup1, mkTup2, b_idx, ix0, ix1, Bool.false_eq_true, reduceIte, items2, eS_while, absI_eq]
  rw [euclid (R := fun a b => [some (.int a), some (.int b)]) (fun a b => ?_) (fun a b hb => ?_) 100000 fuelW a.natAbs b.natAbs hb (by decide)]
  · simp only [eS_seq, eS_skip, eS_ret, eS_ex, eS_asg, eS_ite, eS_raise, eE_call, eE_bi, eE_var, eE_cst, eE_glo, eE_fnv, eE_tup, eE_lst, eE_and, eE_or, eE_not, eE_ite, eE_mth, eE_chain, eE_sl, intP, slT, eA_cons, eA_nil, eT_nm, eT_tup, eT_cons, eT_nil, go_ok, go_exc, go_stuck, gv0, gvS, List.set_cons_zero, List.set_cons_succ, b_add, b_sub, b_mul, b_fdiv, b_mod, b_neg, b_abs, b_lt, b_le, b_gt, b_ge, b_eqI, b_neI, b_max, b_min, asBool_bl, mkTup1, mkTup2, b_idx, ix0, ix1, Bool.false_eq_true, reduceIte]
    rfl
  · rw [bind_go]
    simp only [eS_seq, eS_skip, eS_ret, eS_ex, eS_asg, eS_ite, eS_raise, eE_call, eE_bi, eE_var, eE_cst, eE_glo, eE_fnv, eE_tup, eE_lst, eE_and, eE_or, eE_not, eE_ite, eE_mth, eE_chain, eE_sl, intP, slT, eA_cons, eA_nil, eT_nm, eT_tup, eT_cons, eT_nil, go_ok, go_exc, go_stuck, gv0, gvS, List.set_cons_zero, List.set_cons_succ, b_add, b_sub, b_mul, b_fdiv, b_mod, b_neg, b_abs, b_lt, b_le, b_gt, b_ge, b_eqI, b_neI, b_max, b_min, asBool_bl, mkTup1, mkTup2, b_idx, ix0, ix1, Bool.false_eq_true, reduceIte]
  · have e1 : decide (b ≠ 0) = true := by simpa using hb
    simp only [eS_seq, eS_skip, eS_ret, eS_ex, eS_asg, eS_ite, eS_raise, eE_call, eE_bi, eE_var, eE_cst, eE_glo, eE_fnv, eE_tup, eE_lst, eE_and, eE_or, eE_not, eE_ite, eE_mth, eE_chain, eE_sl, intP, slT, eA_cons, eA_nil, eT_nm, eT_tup, eT_cons, eT_nil, go_ok, go_exc, go_stuck, gv0, gvS, List.set_cons_zero, List.set_cons_succ, b_add, b_sub, b_mul, b_fdiv, b_mod, b_neg, b_abs, b_lt, b_le, b_gt, b_ge, b_eqI, b_neI, b_max, b_min, asBool_bl, mkTup1, mkTup2, b_idx, ix0, ix1, Bool.false_eq_true, reduceIte, items2, e1]
/-- small: below what a floor division takes -/
def Sm (i : Int) : Prop := i.natAbs < 2 ^ 9000
theorem Sm.tm {i : Int} (h : Sm i) : Tm i := Nat.lt_of_lt_of_le h (Nat.pow_le_pow_right (by decide) (by decide))
theorem divOk_of {g : Int} (h : g ≠ 0) (hs : Sm g) : divOk g = true := by
  unfold divOk
  have h1 : g.natAbs ≠ 0 := by omega
  have h2 : g.natAbs.log2 < 9000 := (Nat.log2_lt h1).mpr hs
  simp [h, h2]
def encR (q : Rat) : D := .tup [.int q.num, .int (q.den : Int)]
theorem lowest_call (k : Nat) (n d : Int) (st : Store) (hd : d ≠ 0) (hs : Sm d) : callF tbl (k + 2) i_lowest [.int n, .int d] st = .ok (encR (Rat.divInt n d)) st := by
  refine call_ret (d := d_lowest) rfl rfl rfl ?_ rfl
  show evS (callF tbl (k + 1)) b_lowest [some (.int n), some (.int d), none] st = _
  have hc := gcd_call k n d st hs.tm
  have hgd : (Int.gcd n d : Int) ∣ d := Int.gcd_dvd_right ..
  have hgn : (Int.gcd n d : Int) ∣ n := Int.gcd_dvd_left ..
  have hg0 : Int.gcd n d ≠ 0 := fun e => hd (Int.gcd_eq_zero_iff.mp e).2
  have hgle : Int.gcd n d ≤ d.natAbs := Nat.le_of_dvd (by omega) (Int.natAbs_dvd_natAbs.mpr hgd)
  have hq : (Rat.divInt n d).num = d.sign * n / (Int.gcd n d : Int) := by rw [Rat.num_divInt, Int.gcd_comm]
  have hq2 : (Rat.divInt n d).den = d.natAbs / Int.gcd n d := by rw [Rat.den_divInt, if_neg hd, Int.gcd_comm]
  have hgs : Sm (Int.gcd n d : Int) := by
    show ((Int.gcd n d : Int)).natAbs < _
    rw [Int.natAbs_natCast]; exact Nat.lt_of_le_of_lt hgle hs
  by_cases hneg : d < 0
  · have e1 : decide (d < 0) = true := by simpa using hneg
    have e2 : divOk (-(Int.gcd n d : Int)) = true := divOk_of (by omega) (by show (-(Int.gcd n d : Int)).natAbs < _; rw [Int.natAbs_neg]; exact hgs)
    simp only [b_lowest, eS_seq, eS_skip, eS_ret, eS_ex, eS_asg, eS_ite, eS_raise, eE_call, eE_bi, eE_var, eE_cst, eE_glo, eE_fnv, eE_tup, eE_lst, eE_and, eE_or, eE_not, eE_ite, eE_mth, eE_chain, eE_sl, intP, slT, eA_cons, eA_nil, eT_nm, eT_tup, eT_cons, eT_nil, go_ok, go_exc, go_stuck, gv0, gvS, List.set_cons_zero, List.set_cons_succ, b_add, b_sub, b_mul, b_fdiv, b_mod, b_neg, b_abs, b_lt, b_le, b_gt, b_ge, b_eqI, b_neI, b_max, b_min, asBool_bl, mkTup1, mkTup2, b_idx, ix0, ix1, Bool.false_eq_true, reduceIte, hc, e1, e2]
    have f1 : n.fdiv (-(Int.gcd n d : Int)) = (Rat.divInt n d).num := by
      rw [hq, Int.sign_eq_neg_one_of_neg hneg]
      have h0 : (Int.gcd n d : Int) ≠ 0 := by omega
      have h1 : -(Int.gcd n d : Int) ≠ 0 := by omega
      generalize (Int.gcd n d : Int) = g at *
      obtain ⟨c, rfl⟩ := hgn
      have a1 : g * c = -g * -c := by rw [Int.neg_mul_neg]
      have a2 : -1 * (g * c) = g * -c := by rw [Int.mul_neg, Int.neg_mul, Int.one_mul]
      rw [a2, Int.mul_ediv_cancel_left _ h0, a1, Int.mul_fdiv_cancel_left _ h1]
    have f2 : d.fdiv (-(Int.gcd n d : Int)) = ((Rat.divInt n d).den : Int) := by
      rw [hq2, Int.natCast_ediv]
      have h0 : (Int.gcd n d : Int) ≠ 0 := by omega
      have h1 : -(Int.gcd n d : Int) ≠ 0 := by omega
      have h2 : (d.natAbs : Int) = -d := by omega
      rw [h2]
      generalize (Int.gcd n d : Int) = g at *
      obtain ⟨c, hc⟩ := hgd
      have a1 : d = -g * -c := by rw [Int.neg_mul_neg]; exact hc
      have a2 : -d = g * -c := by rw [Int.mul_neg, ← hc]
      rw [a2, Int.mul_ediv_cancel_left _ h0, a1, Int.mul_fdiv_cancel_left _ h1]
    rw [f1, f2]; rfl
  · have e1 : decide (d < 0) = false := by simpa using hneg
    have e2 : divOk (Int.gcd n d : Int) = true := divOk_of (by omega) hgs
    simp only [b_lowest, eS_seq, eS_skip, eS_ret, eS_ex, eS_asg, eS_ite, eS_raise, eE_call, eE_bi, eE_var, eE_cst, eE_glo, eE_fnv, eE_tup, eE_lst, eE_and, eE_or, eE_not, eE_ite, eE_mth, eE_chain, eE_sl, intP, slT, eA_cons, eA_nil, eT_nm, eT_tup, eT_cons, eT_nil, go_ok, go_exc, go_stuck, gv0, gvS, List.set_cons_zero, List.set_cons_succ, b_add, b_sub, b_mul, b_fdiv, b_mod, b_neg, b_abs, b_lt, b_le, b_gt, b_ge, b_eqI, b_neI, b_max, b_min, asBool_bl, mkTup1, mkTup2, b_idx, ix0, ix1, Bool.false_eq_true, reduceIte, hc, e1, e2]
    have f1 : n.fdiv (Int.gcd n d : Int) = (Rat.divInt n d).num := by
      rw [hq, Int.sign_eq_one_of_pos (by omega), Int.one_mul, Int.fdiv_eq_ediv_of_nonneg _ (by omega)]
    have f2 : d.fdiv (Int.gcd n d : Int) = ((Rat.divInt n d).den : Int) := by
      rw [hq2, Int.fdiv_eq_ediv_of_nonneg _ (by omega), Int.natCast_ediv]
      congr 1
      omega
    rw [f1, f2]; rfl
/-- within what a product takes -/
def Fi (i : Int) : Prop := i.natAbs < 2 ^ 1000000
theorem bits_of {i : Int} (h : Fi i) : Builtin.Int.intBits i ≤ 1000000 := by
  unfold Builtin.Int.intBits
  split
  · exact Nat.zero_le _
  · rename_i h0
    have h1 : i.natAbs ≠ 0 := by
      intro e
      have : i = 0 := by omega
      subst this
      exact h0 rfl
    exact (Nat.log2_lt h1).mpr h
theorem mulOk_fi {i j : Int} (hi : Fi i) (hj : Fi j) : mulOk i j = true := by
  have h1 := bits_of hi
  have h2 := bits_of hj
  unfold mulOk
  have e : Builtin.Int.intTooBig ((Builtin.Int.intBits i : Int) + (Builtin.Int.intBits j : Int)) = false := by
    unfold Builtin.Int.intTooBig
    have : ¬ ((Builtin.Int.intBits i : Int) + (Builtin.Int.intBits j : Int) > (bitsLine : Int)) := by
      have : (bitsLine : Int) = 134217728 := rfl
      omega
    simpa using this
  rw [e, Bool.and_false]; rfl
structure Fine (q : Rat) : Prop where
  n : Fi q.num
  d : Fi (q.den : Int)
theorem add_enc (p q : Rat) : Rat.divInt (p.num * q.den + q.num * p.den) (p.den * q.den) = p + q := by
  have hp : (p.den : Int) ≠ 0 := by have := p.den_nz; omega
  have hq : (q.den : Int) ≠ 0 := by have := q.den_nz; omega
  rw [← Rat.divInt_add_divInt _ _ hp hq, Rat.num_divInt_den, Rat.num_divInt_den]
theorem sub_enc (p q : Rat) : Rat.divInt (p.num * q.den - q.num * p.den) (p.den * q.den) = p - q := by
  have h := add_enc p (-q)
  rw [Rat.neg_num, Rat.neg_den, Int.neg_mul] at h
  rw [Int.sub_eq_add_neg, h, Rat.sub_eq_add_neg]
theorem mul_enc (p q : Rat) : Rat.divInt (p.num * q.num) (p.den * q.den) = p * q := by
  rw [← Rat.divInt_mul_divInt, Rat.num_divInt_den, Rat.num_divInt_den]
theorem den_ne (p q : Rat) : ((p.den : Int) * (q.den : Int)) ≠ 0 := by
  have hp : (p.den : Int) ≠ 0 := by have := p.den_nz; omega
  have hq : (q.den : Int) ≠ 0 := by have := q.den_nz; omega
  exact Int.mul_ne_zero hp hq
theorem enc_below {q : Rat} {n : Nat} : below n (encR q) = true := rfl
section
variable {k : Nat} {p q : Rat} {st : Store}
theorem ratio_sum_call (hp : Fine p) (hq : Fine q) (h : Sm ((p.den : Int) * (q.den : Int))) : callF tbl (k + 3) i_ratio_sum [encR p, encR q] st = .ok (encR (p + q)) st := by
  refine call_ret (d := d_ratio_sum) rfl rfl rfl ?_ rfl
  show evS (callF tbl (k + 2)) b_ratio_sum [some (encR p), some (encR q)] st = _
  have hc := lowest_call k (p.num * q.den + q.num * p.den) (p.den * q.den) st (den_ne p q) h
  simp only [b_ratio_sum, eS_seq, eS_skip, eS_ret, eS_ex, eS_asg, eS_ite, eS_raise, eE_call, eE_bi, eE_var, eE_cst, eE_glo, eE_fnv, eE_tup, eE_lst, eE_and, eE_or, eE_not, eE_ite, eE_mth, eE_chain, eE_sl, intP, slT, eA_cons, eA_nil, eT_nm, eT_tup, eT_cons, eT_nil, go_ok, go_exc, go_stuck, gv0, gvS, List.set_cons_zero, List.set_cons_succ, b_add, b_sub, b_mul, b_fdiv, b_mod, b_neg, b_abs, b_lt, b_le, b_gt, b_ge, b_eqI, b_neI, b_max, b_min, asBool_bl, mkTup1, mkTup2, b_idx, ix0, ix1, Bool.false_eq_true, reduceIte, encR, mulOk_fi hp.n hq.d, mulOk_fi hq.n hp.d, mulOk_fi hp.d hq.d]
  rw [hc, go_ok, add_enc]; rfl
theorem ratio_less_call (hp : Fine p) (hq : Fine q) (h : Sm ((p.den : Int) * (q.den : Int))) : callF tbl (k + 3) i_ratio_less [encR p, encR q] st = .ok (encR (p - q)) st := by
  refine call_ret (d := d_ratio_less) rfl rfl rfl ?_ rfl
  show evS (callF tbl (k + 2)) b_ratio_less [some (encR p), some (encR q)] st = _
  have hc := lowest_call k (p.num * q.den - q.num * p.den) (p.den * q.den) st (den_ne p q) h
  simp only [b_ratio_less, eS_seq, eS_skip, eS_ret, eS_ex, eS_asg, eS_ite, eS_raise, eE_call, eE_bi, eE_var, eE_cst, eE_glo, eE_fnv, eE_tup, eE_lst, eE_and, eE_or, eE_not, eE_ite, eE_mth, eE_chain, eE_sl, intP, slT, eA_cons, eA_nil, eT_nm, eT_tup, eT_cons, eT_nil, go_ok, go_exc, go_stuck, gv0, gvS, List.set_cons_zero, List.set_cons_succ, b_add, b_sub, b_mul, b_fdiv, b_mod, b_neg, b_abs, b_lt, b_le, b_gt, b_ge, b_eqI, b_neI, b_max, b_min, asBool_bl, mkTup1, mkTup2, b_idx, ix0, ix1, Bool.false_eq_true, reduceIte, encR, mulOk_fi hp.n hq.d, mulOk_fi hq.n hp.d, mulOk_fi hp.d hq.d]
  rw [hc, go_ok, sub_enc]; rfl
theorem ratio_product_call (hp : Fine p) (hq : Fine q) (h : Sm ((p.den : Int) * (q.den : Int))) : callF tbl (k + 3) i_ratio_product [encR p, encR q] st = .ok (encR (p * q)) st := by
  refine call_ret (d := d_ratio_product) rfl rfl rfl ?_ rfl
  show evS (callF tbl (k + 2)) b_ratio_product [some (encR p), some (encR q)] st = _
  have hc := lowest_call k (p.num * q.num) (p.den * q.den) st (den_ne p q) h
  simp only [b_ratio_product, eS_seq, eS_skip, eS_ret, eS_ex, eS_asg, eS_ite, eS_raise, eE_call, eE_bi, eE_var, eE_cst, eE_glo, eE_fnv, eE_tup, eE_lst, eE_and, eE_or, eE_not, eE_ite, eE_mth, eE_chain, eE_sl, intP, slT, eA_cons, eA_nil, eT_nm, eT_tup, eT_cons, eT_nil, go_ok, go_exc, go_stuck, gv0, gvS, List.set_cons_zero, List.set_cons_succ, b_add, b_sub, b_mul, b_fdiv, b_mod, b_neg, b_abs, b_lt, b_le, b_gt, b_ge, b_eqI, b_neI, b_max, b_min, asBool_bl, mkTup1, mkTup2, b_idx, ix0, ix1, Bool.false_eq_true, reduceIte, encR, mulOk_fi hp.n hq.n, mulOk_fi hp.d hq.d]
  rw [hc, go_ok, mul_enc]; rfl
theorem div_enc (hq : q ≠ 0) : Rat.divInt (p.num * q.den) (p.den * q.num) = p / q := by
  have h0 : q.num ≠ 0 := by rwa [Ne, Rat.num_eq_zero]
  have h1 : (p.den : Int) ≠ 0 := by have := p.den_nz; omega
  have h2 : (q.den : Int) ≠ 0 := by have := q.den_nz; omega
  rw [Rat.divInt_eq_div, Rat.intCast_mul, Rat.intCast_mul]
  have e1 : p = (p.num : Rat) / ((p.den : Int) : Rat) := by rw [← Rat.divInt_eq_div, Rat.num_divInt_den]
  have e2 : q = (q.num : Rat) / ((q.den : Int) : Rat) := by rw [← Rat.divInt_eq_div, Rat.num_divInt_den]
  have c0 : ((q.num : Int) : Rat) ≠ 0 := by simpa using h0
  have c1 : ((p.den : Int) : Rat) ≠ 0 := by simpa using h1
  have c2 : ((q.den : Int) : Rat) ≠ 0 := by simpa using h2
  have key : ∀ a b c d : Rat, b ≠ 0 → c ≠ 0 → d ≠ 0 → (a * d) / (b * c) = (a / b) / (c / d) := by
    intro a b c d hb hc hd
    grind
  rw [key _ _ _ _ c1 c0 c2, ← e1, ← e2]
theorem ratio_over_call (hp : Fine p) (hq : Fine q) (hq0 : q ≠ 0) (h : Sm ((p.den : Int) * q.num)) : callF tbl (k + 3) i_ratio_over [encR p, encR q] st = .ok (encR (p / q)) st := by
  refine call_ret (d := d_ratio_over) rfl rfl rfl ?_ rfl
  show evS (callF tbl (k + 2)) b_ratio_over [some (encR p), some (encR q)] st = _
  have h0 : q.num ≠ 0 := by rwa [Ne, Rat.num_eq_zero]
  have h1 : (p.den : Int) ≠ 0 := by have := p.den_nz; omega
  have e1 : (q.num == 0) = false := by simpa using h0
  have hc := lowest_call k (p.num * q.den) (p.den * q.num) st (Int.mul_ne_zero h1 h0) h
  simp only [b_ratio_over, eS_seq, eS_skip, eS_ret, eS_ex, eS_asg, eS_ite, eS_raise, eE_call, eE_bi, eE_var, eE_cst, eE_glo, eE_fnv, eE_tup, eE_lst, eE_and, eE_or, eE_not, eE_ite, eE_mth, eE_chain, eE_sl, intP, slT, eA_cons, eA_nil, eT_nm, eT_tup, eT_cons, eT_nil, go_ok, go_exc, go_stuck, gv0, gvS, List.set_cons_zero, List.set_cons_succ, b_add, b_sub, b_mul, b_fdiv, b_mod, b_neg, b_abs, b_lt, b_le, b_gt, b_ge, b_eqI, b_neI, b_max, b_min, asBool_bl, mkTup1, mkTup2, b_idx, ix0, ix1, Bool.false_eq_true, reduceIte, encR, mulOk_fi hp.n hq.d, mulOk_fi hp.d hq.n, e1]
  rw [hc, go_ok, div_enc hq0]; rfl
end
/-- no cells, no defs, no script at the top -/
def plainD : D → Bool
  | .ref _ => false
  | .fn _ => false
  | .lok _ => false
  | _ => true
def isInt : D → Bool
  | .int _ => true
  | _ => false
theorem is_integer_call {k : Nat} {d : D} {st : Store} (h : plainD d = true) : callF tbl (k + 1) i_is_integer [d] st = .ok (.bl (isInt d)) st := by
  cases d with
  | ref _ => cases h
  | fn _ => cases h
  | lok _ => cases h
  | _ => exact call_ret (d := d_is_integer) rfl rfl rfl rfl rfl
def isRatioD : D → Bool
  | .tup [.int n, .int d] => decide (0 < d) && ((Int.gcd n d : Int) == 1)
  | _ => false
theorem isT {xs : List D} {st : Store} : isinstV [.tuple] (.tup xs) st = .ok (.bl true) st := rfl
theorem lenT' {xs : List D} {st : Store} : lenV (.tup xs) st = .ok (.int xs.length) st := rfl
/-- a pair's items are plain, its second one small -/
def rOk : D → Bool
  | .tup [a, b] => plainD a && plainD b && (match b with
    | .int d => decide (d.natAbs < 2 ^ 100000)
    | _ => true)
  | d => plainD d
theorem is_ratio_pair {k : Nat} {a b : D} {st : Store} (ha : plainD a = true) (hb : plainD b = true) (hs : ∀ d, b = .int d → Tm d) : callF tbl (k + 2) i_is_ratio [.tup [a, b]] st = .ok (.bl (isRatioD (.tup [a, b]))) st := by
  refine call_ret (d := d_is_ratio) rfl rfl rfl ?_ rfl
  show evS (callF tbl (k + 1)) b_is_ratio [some (.tup [a, b])] st = _
  have h1 := is_integer_call (k := k) (st := st) ha
  have h2 := is_integer_call (k := k) (st := st) hb
  have e2 : ((([a, b] : List D).length : Int) == 2) = true := rfl
  cases ia : isInt a with
  | false =>
    have e3 : isRatioD (.tup [a, b]) = false := by cases a <;> first | rfl | cases ia
    rw [ia] at h1
    simp only [b_is_ratio, eS_seq, eS_skip, eS_ret, eS_ex, eS_asg, eS_ite, eS_raise, eE_call, eE_bi, eE_var, eE_cst, eE_glo, eE_fnv, eE_tup, eE_lst, eE_and, eE_or, eE_not, eE_ite, eE_mth, eE_chain, eE_sl, intP, slT, eA_cons, eA_nil, eT_nm, eT_tup, eT_cons, eT_nil, go_ok, go_exc, go_stuck, gv0, gvS, List.set_cons_zero, List.set_cons_succ, b_add, b_sub, b_mul, b_fdiv, b_mod, b_neg, b_abs, b_lt, b_le, b_gt, b_ge, b_eqI, b_neI, b_max, b_min, asBool_bl, mkTup1, mkTup2, b_idx, ix0, ix1, Bool.false_eq_true, reduceIte, b_isinst, isT, b_len, lenT', h1, h2, e2, e3, Bool.not_true, Bool.not_false]
  | true =>
    cases ib : isInt b with
    | false =>
      have e3 : isRatioD (.tup [a, b]) = false := by cases a <;> cases b <;> first | rfl | cases ib
      rw [ia] at h1
      rw [ib] at h2
      simp only [b_is_ratio, eS_seq, eS_skip, eS_ret, eS_ex, eS_asg, eS_ite, eS_raise, eE_call, eE_bi, eE_var, eE_cst, eE_glo, eE_fnv, eE_tup, eE_lst, eE_and, eE_or, eE_not, eE_ite, eE_mth, eE_chain, eE_sl, intP, slT, eA_cons, eA_nil, eT_nm, eT_tup, eT_cons, eT_nil, go_ok, go_exc, go_stuck, gv0, gvS, List.set_cons_zero, List.set_cons_succ, b_add, b_sub, b_mul, b_fdiv, b_mod, b_neg, b_abs, b_lt, b_le, b_gt, b_ge, b_eqI, b_neI, b_max, b_min, asBool_bl, mkTup1, mkTup2, b_idx, ix0, ix1, Bool.false_eq_true, reduceIte, b_isinst, isT, b_len, lenT', h1, h2, e2, e3, Bool.not_true, Bool.not_false]
    | true =>
      rw [ia] at h1
      rw [ib] at h2
      cases a with
      | int n =>
        cases b with
        | int d =>
          have hg := gcd_call k n d st (hs d rfl)
          simp only [b_is_ratio, eS_seq, eS_skip, eS_ret, eS_ex, eS_asg, eS_ite, eS_raise, eE_call, eE_bi, eE_var, eE_cst, eE_glo, eE_fnv, eE_tup, eE_lst, eE_and, eE_or, eE_not, eE_ite, eE_mth, eE_chain, eE_sl, intP, slT, eA_cons, eA_nil, eT_nm, eT_tup, eT_cons, eT_nil, go_ok, go_exc, go_stuck, gv0, gvS, List.set_cons_zero, List.set_cons_succ, b_add, b_sub, b_mul, b_fdiv, b_mod, b_neg, b_abs, b_lt, b_le, b_gt, b_ge, b_eqI, b_neI, b_max, b_min, asBool_bl, mkTup1, mkTup2, b_idx, ix0, ix1, Bool.false_eq_true, reduceIte, b_isinst, isT, b_len, lenT', h1, h2, e2, Bool.not_true, Bool.not_false, hg]
          have e4 : isRatioD (.tup [.int n, .int d]) = (decide (0 < d) && ((Int.gcd n d : Int) == 1)) := rfl
          rw [e4]
          cases decide (0 < d) <;> rfl
        | _ => cases ib
      | _ => cases ia
/-- any data asked whether it is a ratio: pairs' second ints tame -/
def RatAsk : D → Prop
  | .tup [a, b] => plainD a = true ∧ plainD b = true ∧ ∀ d, b = .int d → Tm d
  | .tup _ => True
  | .ref _ => False
  | .fn _ => False
  | .lok _ => False
  | _ => True
theorem is_ratio_call {k : Nat} {v : D} {st : Store} (h : RatAsk v) : callF tbl (k + 2) i_is_ratio [v] st = .ok (.bl (isRatioD v)) st := by
  cases v with
  | tup xs =>
    match xs, h with
    | [a, b], h => exact is_ratio_pair h.1 h.2.1 h.2.2
    | [], _ => exact call_ret (d := d_is_ratio) rfl rfl rfl rfl rfl
    | [a], _ =>
      have e3 : isRatioD (.tup [a]) = false := by cases a <;> rfl
      rw [e3]
      exact call_ret (d := d_is_ratio) rfl rfl rfl rfl rfl
    | a :: b :: c :: r, _ =>
      have e3 : isRatioD (.tup (a :: b :: c :: r)) = false := by cases a <;> first | rfl | (cases b <;> rfl)
      rw [e3]
      refine call_ret (d := d_is_ratio) rfl rfl rfl ?_ rfl
      show evS (callF tbl (k + 1)) b_is_ratio [some (.tup (a :: b :: c :: r))] st = _
      have e2 : ((((a :: b :: c :: r : List D)).length : Int) == 2) = false := by
        have : ¬ (((a :: b :: c :: r : List D)).length : Int) = 2 := by simp; omega
        simpa using this
      simp only [b_is_ratio, eS_seq, eS_skip, eS_ret, eS_ex, eS_asg, eS_ite, eS_raise, eE_call, eE_bi, eE_var, eE_cst, eE_glo, eE_fnv, eE_tup, eE_lst, eE_and, eE_or, eE_not, eE_ite, eE_mth, eE_chain, eE_sl, intP, slT, eA_cons, eA_nil, eT_nm, eT_tup, eT_cons, eT_nil, go_ok, go_exc, go_stuck, gv0, gvS, List.set_cons_zero, List.set_cons_succ, b_add, b_sub, b_mul, b_fdiv, b_mod, b_neg, b_abs, b_lt, b_le, b_gt, b_ge, b_eqI, b_neI, b_max, b_min, asBool_bl, mkTup1, mkTup2, b_idx, ix0, ix1, Bool.false_eq_true, reduceIte, b_isinst, isT, b_len, lenT', e2, Bool.not_true, Bool.not_false]
  | ref _ => exact h.elim
  | fn _ => exact h.elim
  | lok _ => exact h.elim
  | _ => exact call_ret (d := d_is_ratio) rfl rfl rfl rfl rfl
theorem allBools_map {f : D → Bool} : ∀ xs : List D, allBools (xs.map fun x => D.bl (f x)) = some (xs.map f)
  | [] => rfl
  | x :: xs => by
    show (allBools (xs.map fun x => D.bl (f x))).map (f x :: ·) = _
    rw [allBools_map xs]; rfl
theorem allV_map {f : D → Bool} {xs : List D} {st : Store} : allV (.lst (xs.map fun x => D.bl (f x))) st = .ok (.bl (xs.all f)) st := by
  show (match (some (xs.map fun x => D.bl (f x))).bind allBools with
    | some bs => Res.ok (D.bl (bs.all id)) st
    | none => .stuck) = _
  rw [Option.bind_some, allBools_map]
  show Res.ok (D.bl ((xs.map f).all id)) st = _
  rw [List.all_map]; rfl
theorem anyV_map {f : D → Bool} {xs : List D} {st : Store} : anyV (.lst (xs.map fun x => D.bl (f x))) st = .ok (.bl (xs.any f)) st := by
  show (match (some (xs.map fun x => D.bl (f x))).bind allBools with
    | some bs => Res.ok (D.bl (bs.any id)) st
    | none => .stuck) = _
  rw [Option.bind_some, allBools_map]
  show Res.ok (D.bl ((xs.map f).any id)) st = _
  rw [List.any_map]; rfl
theorem is_row_call {k : Nat} {xs : List D} {m : Int} {st : Store} (h : ∀ x ∈ xs, RatAsk x) (hl : xs.length ≤ 16777216) : callF tbl (k + 3) i_is_row [.tup xs, .int m] st = .ok (.bl (((xs.length : Int) == m) && xs.all isRatioD)) st := by
  refine call_ret (d := d_is_row) rfl rfl rfl ?_ rfl
  show evS (callF tbl (k + 2)) b_is_row [some (.tup xs), some (.int m), none] st = _
  have hc : evE (callF tbl (k + 2)) (.comp false (.call 3 (.cons (.var 2) .nil)) [2] true (.sq (.var 0)) (.cst (.bl true))) [some (.tup xs), some (.int m), none] st = .ok (.lst (xs.map fun x => D.bl (isRatioD x))) st := by
    rw [← filterMap_some]
    refine comp_run (xs := xs) rfl (fun x hx => cBody_one ?_) (by rw [filterMap_some, List.length_map]; exact hl)
    simp only [eS_seq, eS_skip, eS_ret, eS_ex, eS_asg, eS_ite, eS_raise, eE_call, eE_bi, eE_var, eE_cst, eE_glo, eE_fnv, eE_tup, eE_lst, eE_and, eE_or, eE_not, eE_ite, eE_mth, eE_chain, eE_sl, intP, slT, eA_cons, eA_nil, eT_nm, eT_tup, eT_cons, eT_nil, go_ok, go_exc, go_stuck, gv0, gvS, List.set_cons_zero, List.set_cons_succ, b_add, b_sub, b_mul, b_fdiv, b_mod, b_neg, b_abs, b_lt, b_le, b_gt, b_ge, b_eqI, b_neI, b_max, b_min, asBool_bl, mkTup1, mkTup2, b_idx, ix0, ix1, Bool.false_eq_true, reduceIte, is_ratio_call (k := k) (h x hx)]
  simp only [b_is_row, eS_seq, eS_skip, eS_ret, eS_ex, eS_asg, eS_ite, eS_raise, eE_call, eE_bi, eE_var, eE_cst, eE_glo, eE_fnv, eE_tup, eE_lst, eE_and, eE_or, eE_not, eE_ite, eE_mth, eE_chain, eE_sl, intP, slT, eA_cons, eA_nil, eT_nm, eT_tup, eT_cons, eT_nil, go_ok, go_exc, go_stuck, gv0, gvS, List.set_cons_zero, List.set_cons_succ, b_add, b_sub, b_mul, b_fdiv, b_mod, b_neg, b_abs, b_lt, b_le, b_gt, b_ge, b_eqI, b_neI, b_max, b_min, asBool_bl, mkTup1, mkTup2, b_idx, ix0, ix1, Bool.false_eq_true, reduceIte, b_isinst, isT, b_len, lenT', b_all, hc, allV_map]
  cases ((xs.length : Int) == m) <;> rfl
theorem bd_fine {q : Rat} {N E : Nat} (h : Bd q N E) (h1 : N < 2 ^ 1000000) (h2 : E < 2 ^ 1000000) : Fine q := ⟨Nat.lt_of_le_of_lt h.1 h1, by show ((q.den : Int)).natAbs < _; rw [Int.natAbs_natCast]; exact Nat.lt_of_le_of_lt h.2 h2⟩
theorem big_le : (2 : Nat) ^ 9000 ≤ 2 ^ 1000000 := Nat.pow_le_pow_right (by decide) (by decide)
theorem bd_sm {p q : Rat} {N E N' E' : Nat} (hp : Bd p N E) (hq : Bd q N' E') (h : E * E' < 2 ^ 9000) : Sm ((p.den : Int) * (q.den : Int)) := by
  show ((p.den : Int) * (q.den : Int)).natAbs < _
  rw [Int.natAbs_mul, Int.natAbs_natCast, Int.natAbs_natCast]
  exact Nat.lt_of_le_of_lt (Nat.mul_le_mul hp.2 hq.2) h
/-- the loop of total_of -/
theorem total_loop {k A : Nat} {st : Store} {x0 : Option D} (hA1 : 1 ≤ A) : ∀ (qs : List Rat) (s : Rat) (N E : Nat) (x2 : Option D), (∀ q ∈ qs, Bd q A A) → Bd s N E → E * A ^ qs.length < 2 ^ 9000 → (N + qs.length * E) * A ^ qs.length < 2 ^ 1000000 →
    ∃ x2', loopItems (fun d ρ => asT (callF tbl (k + 3)) (.nm 2) d ρ >>= fun ρ' => evS (callF tbl (k + 3)) (.seq (.asg (.nm 1) (.call 4 (.cons (.var 1) (.cons (.var 2) .nil)))) .skip) ρ') (qs.map encR) [x0, some (encR s), x2] st = .ok (.nx [x0, some (encR (qs.foldl (· + ·) s)), x2']) st
  | [], s, N, E, x2, _, _, _, _ => ⟨x2, rfl⟩
  | q :: qs, s, N, E, x2, hq, hs, h1, h2 => by
    have hq0 := hq q List.mem_cons_self
    have hApos : 1 ≤ A ^ qs.length := Nat.one_le_pow _ _ hA1
    have hE : E * A < 2 ^ 9000 := by
      refine Nat.lt_of_le_of_lt ?_ h1
      rw [List.length_cons, Nat.pow_succ]
      calc E * A = E * (1 * A) := by rw [Nat.one_mul]
        _ ≤ E * (A ^ qs.length * A) := Nat.mul_le_mul_left _ (Nat.mul_le_mul_right _ hApos)
    have hN : N < 2 ^ 1000000 := by
      refine Nat.lt_of_le_of_lt ?_ h2
      have : 1 ≤ A ^ (q :: qs).length := Nat.one_le_pow _ _ hA1
      calc N ≤ (N + (q :: qs).length * E) * 1 := by rw [Nat.mul_one]; exact Nat.le_add_right _ _
        _ ≤ _ := Nat.mul_le_mul_left _ this
    have hE1 : 1 ≤ E := Nat.le_trans (Nat.one_le_iff_ne_zero.mpr s.den_nz) hs.2
    have hAs : A < 2 ^ 9000 := Nat.lt_of_le_of_lt (by calc A = 1 * A := (Nat.one_mul _).symm
                                                        _ ≤ E * A := Nat.mul_le_mul_right _ hE1) hE
    have hEs : E < 2 ^ 9000 := Nat.lt_of_le_of_lt (by calc E = E * 1 := (Nat.mul_one _).symm
                                                        _ ≤ E * A := Nat.mul_le_mul_left _ hA1) hE
    have hc : callF tbl (k + 3) 4 [encR s, encR q] st = .ok (encR (s + q)) st := ratio_sum_call (bd_fine hs hN (Nat.lt_of_lt_of_le hEs big_le)) (bd_fine hq0 (Nat.lt_of_lt_of_le hAs big_le) (Nat.lt_of_lt_of_le hAs big_le)) (bd_sm hs hq0 hE)
    obtain ⟨x2', ih⟩ := total_loop (k := k) (st := st) (x0 := x0) hA1 qs (s + q) (N * A + A * E) (E * A) (some (encR q)) (fun p hp => hq p (List.mem_cons_of_mem _ hp)) (bd_add hs hq0)
      (by rw [List.length_cons, Nat.pow_succ] at h1; rw [Nat.mul_assoc, Nat.mul_comm A]; exact h1)
      (by
        rw [List.length_cons, Nat.pow_succ] at h2
        refine Nat.lt_of_le_of_lt (Nat.le_of_eq ?_) h2
        generalize A ^ qs.length = P
        generalize qs.length = n
        grind)
    refine ⟨x2', ?_⟩
    rw [List.map_cons, loop_cons, bind_go]
    simp only [eS_seq, eS_skip, eS_ret, eS_ex, eS_asg, eS_ite, eS_raise, eE_call, eE_bi, eE_var, eE_cst, eE_glo, eE_fnv, eE_tup, eE_lst, eE_and, eE_or, eE_not, eE_ite, eE_mth, eE_chain, eE_sl, intP, slT, eA_cons, eA_nil, eT_nm, eT_tup, eT_cons, eT_nil, go_ok, go_exc, go_stuck, gv0, gvS, List.set_cons_zero, List.set_cons_succ, b_add, b_sub, b_mul, b_fdiv, b_mod, b_neg, b_abs, b_lt, b_le, b_gt, b_ge, b_eqI, b_neI, b_max, b_min, asBool_bl, mkTup1, mkTup2, b_idx, ix0, ix1, Bool.false_eq_true, reduceIte, hc]
    exact ih
/-- a sum, from the left -/
def rsum (qs : List Rat) : Rat := qs.foldl (· + ·) 0
theorem enc0 : encR 0 = .tup [.int 0, .int 1] := rfl
theorem total_call {k A : Nat} {st : Store} {qs : List Rat} (hA1 : 1 ≤ A) (hq : ∀ q ∈ qs, Bd q A A) (h1 : A ^ qs.length < 2 ^ 9000) (h2 : qs.length * A ^ qs.length < 2 ^ 1000000) : callF tbl (k + 4) i_total_of [.lst (qs.map encR)] st = .ok (encR (rsum qs)) st := by
  obtain ⟨x2', hl⟩ := total_loop (k := k) (st := st) (x0 := some (.lst (qs.map encR))) hA1 qs 0 0 1 none hq ⟨Nat.le_refl _, Nat.le_refl _⟩ (by rw [Nat.one_mul]; exact h1) (by rw [Nat.zero_add, Nat.mul_one]; exact h2)
  refine call_ret (d := d_total_of) rfl rfl rfl ?_ rfl
  show evS (callF tbl (k + 3)) b_total_of [some (.lst (qs.map encR)), none, none] st = _
  have hs : ∀ ρ, srcOf (.lst (qs.map encR)) ρ = .ok (.items (qs.map encR)) ρ := fun _ => rfl
  simp only [b_total_of, eS_seq, eS_skip, eS_ret, eS_ex, eS_asg, eS_ite, eS_raise, eE_call, eE_bi, eE_var, eE_cst, eE_glo, eE_fnv, eE_tup, eE_lst, eE_and, eE_or, eE_not, eE_ite, eE_mth, eE_chain, eE_sl, intP, slT, eA_cons, eA_nil, eT_nm, eT_tup, eT_cons, eT_nil, go_ok, go_exc, go_stuck, gv0, gvS, List.set_cons_zero, List.set_cons_succ, b_add, b_sub, b_mul, b_fdiv, b_mod, b_neg, b_abs, b_lt, b_le, b_gt, b_ge, b_eqI, b_neI, b_max, b_min, asBool_bl, mkTup1, mkTup2, b_idx, ix0, ix1, Bool.false_eq_true, reduceIte, eS_for, iE_sq, hs, ← enc0]
  show (Res.go (loopItems _ (qs.map encR) _ st) _) = _
  rw [hl]
  simp only [eS_seq, eS_skip, eS_ret, eS_ex, eS_asg, eS_ite, eS_raise, eE_call, eE_bi, eE_var, eE_cst, eE_glo, eE_fnv, eE_tup, eE_lst, eE_and, eE_or, eE_not, eE_ite, eE_mth, eE_chain, eE_sl, intP, slT, eA_cons, eA_nil, eT_nm, eT_tup, eT_cons, eT_nil, go_ok, go_exc, go_stuck, gv0, gvS, List.set_cons_zero, List.set_cons_succ, b_add, b_sub, b_mul, b_fdiv, b_mod, b_neg, b_abs, b_lt, b_le, b_gt, b_ge, b_eqI, b_neI, b_max, b_min, asBool_bl, mkTup1, mkTup2, b_idx, ix0, ix1, Bool.false_eq_true, reduceIte]
  rfl
/-- products, place by place -/
def rdots (ps qs : List Rat) : List Rat := (ps.zip qs).map fun x => x.1 * x.2
theorem zipD_enc : ∀ ps qs : List Rat, zipD (ps.map encR) (qs.map encR) = (ps.zip qs).map fun x => D.tup [encR x.1, encR x.2]
  | [], _ => by simp [zipD]
  | _ :: _, [] => by simp [zipD]
  | p :: ps, q :: qs => by
    show D.tup [encR p, encR q] :: zipD (ps.map encR) (qs.map encR) = _
    rw [zipD_enc ps qs]; rfl
/-- dot, of two tuples -/
theorem dot_call {k A B : Nat} {st : Store} {ps qs : List Rat} (hA1 : 1 ≤ A) (hB1 : 1 ≤ B) (hp : ∀ p ∈ ps, Bd p A A) (hq : ∀ q ∈ qs, Bd q B B) (h0 : A * B < 2 ^ 9000) (h1 : (A * B) ^ (rdots ps qs).length < 2 ^ 9000) (h2 : (rdots ps qs).length * (A * B) ^ (rdots ps qs).length < 2 ^ 1000000) (hl : (rdots ps qs).length ≤ 16777216) :
    callF tbl (k + 5) i_dot [.tup (ps.map encR), .tup (qs.map encR)] st = .ok (encR (rsum (rdots ps qs))) st := by
  refine call_ret (d := d_dot) rfl rfl rfl ?_ rfl
  show evS (callF tbl (k + 4)) b_dot [some (.tup (ps.map encR)), some (.tup (qs.map encR)), none, none] st = _
  have hAB : A < 2 ^ 9000 := Nat.lt_of_le_of_lt (by calc A = A * 1 := (Nat.mul_one _).symm
                                                    _ ≤ A * B := Nat.mul_le_mul_left _ hB1) h0
  have hBA : B < 2 ^ 9000 := Nat.lt_of_le_of_lt (by calc B = 1 * B := (Nat.one_mul _).symm
                                                    _ ≤ A * B := Nat.mul_le_mul_right _ hA1) h0
  have hc : evE (callF tbl (k + 4)) (.comp false (.call 6 (.cons (.var 2) (.cons (.var 3) .nil))) [2, 3] false (.zip (.var 0) (.var 1)) (.cst (.bl true))) [some (.tup (ps.map encR)), some (.tup (qs.map encR)), none, none] st = .ok (.lst ((rdots ps qs).map encR)) st := by
    have hz : evI (callF tbl (k + 4)) (.zip (.var 0) (.var 1)) [some (.tup (ps.map encR)), some (.tup (qs.map encR)), none, none] st = .ok (.items (zipD (ps.map encR) (qs.map encR))) st := rfl
    rw [zipD_enc] at hz
    have hmap : (rdots ps qs).map encR = (ps.zip qs).map fun x => encR (x.1 * x.2) := by
      unfold rdots; rw [List.map_map]; rfl
    rw [hmap]
    refine comp_runM hz (fun x hx => cBody_two ?_) (by unfold rdots at hl; rw [List.length_map] at hl; exact hl)
    obtain ⟨m1, m2⟩ := List.of_mem_zip hx
    have hc : callF tbl (k + 4) 6 [encR x.1, encR x.2] st = .ok (encR (x.1 * x.2)) st := ratio_product_call (k := k + 1) (bd_fine (hp _ m1) (Nat.lt_of_lt_of_le hAB big_le) (Nat.lt_of_lt_of_le hAB big_le)) (bd_fine (hq _ m2) (Nat.lt_of_lt_of_le hBA big_le) (Nat.lt_of_lt_of_le hBA big_le)) (bd_sm (hp _ m1) (hq _ m2) h0)
    simp only [eS_seq, eS_skip, eS_ret, eS_ex, eS_asg, eS_ite, eS_raise, eE_call, eE_bi, eE_var, eE_cst, eE_glo, eE_fnv, eE_tup, eE_lst, eE_and, eE_or, eE_not, eE_ite, eE_mth, eE_chain, eE_sl, intP, slT, eA_cons, eA_nil, eT_nm, eT_tup, eT_cons, eT_nil, go_ok, go_exc, go_stuck, gv0, gvS, List.set_cons_zero, List.set_cons_succ, b_add, b_sub, b_mul, b_fdiv, b_mod, b_neg, b_abs, b_lt, b_le, b_gt, b_ge, b_eqI, b_neI, b_max, b_min, asBool_bl, mkTup1, mkTup2, b_idx, ix0, ix1, Bool.false_eq_true, reduceIte, hc]
  have ht := total_call (k := k) (st := st) (qs := rdots ps qs) (A := A * B) (Nat.mul_pos hA1 hB1) (fun q hq' => ?_) h1 h2
  · simp only [b_dot, eS_seq, eS_skip, eS_ret, eS_ex, eS_asg, eS_ite, eS_raise, eE_call, eE_bi, eE_var, eE_cst, eE_glo, eE_fnv, eE_tup, eE_lst, eE_and, eE_or, eE_not, eE_ite, eE_mth, eE_chain, eE_sl, intP, slT, eA_cons, eA_nil, eT_nm, eT_tup, eT_cons, eT_nil, go_ok, go_exc, go_stuck, gv0, gvS, List.set_cons_zero, List.set_cons_succ, b_add, b_sub, b_mul, b_fdiv, b_mod, b_neg, b_abs, b_lt, b_le, b_gt, b_ge, b_eqI, b_neI, b_max, b_min, asBool_bl, mkTup1, mkTup2, b_idx, ix0, ix1, Bool.false_eq_true, reduceIte, hc, ht]
  · obtain ⟨x, hx, rfl⟩ := List.mem_map.mp hq'
    obtain ⟨m1, m2⟩ := List.of_mem_zip hx
    exact bd_mul (hp _ m1) (hq _ m2)
theorem frac_parts {n d : Int} (hd : d ≠ 0) : n.fdiv (if decide (0 < d) then (Int.gcd n d : Int) else -(Int.gcd n d : Int)) = (Rat.divInt n d).num ∧ d.fdiv (if decide (0 < d) then (Int.gcd n d : Int) else -(Int.gcd n d : Int)) = ((Rat.divInt n d).den : Int) := by
  have hgd : (Int.gcd n d : Int) ∣ d := Int.gcd_dvd_right ..
  have hgn : (Int.gcd n d : Int) ∣ n := Int.gcd_dvd_left ..
  have hg0 : Int.gcd n d ≠ 0 := fun e => hd (Int.gcd_eq_zero_iff.mp e).2
  have hq : (Rat.divInt n d).num = d.sign * n / (Int.gcd n d : Int) := by rw [Rat.num_divInt, Int.gcd_comm]
  have hq2 : (Rat.divInt n d).den = d.natAbs / Int.gcd n d := by rw [Rat.den_divInt, if_neg hd, Int.gcd_comm]
  rw [hq, hq2, Int.natCast_ediv]
  by_cases hp : 0 < d
  · have e1 : decide (0 < d) = true := by simpa using hp
    rw [e1, if_pos rfl, Int.sign_eq_one_of_pos hp, Int.one_mul, Int.fdiv_eq_ediv_of_nonneg _ (by omega), Int.fdiv_eq_ediv_of_nonneg _ (by omega)]
    refine ⟨rfl, ?_⟩
    congr 1
    omega
  · have hneg : d < 0 := by omega
    have e1 : decide (0 < d) = false := by simpa using hp
    have h0 : (Int.gcd n d : Int) ≠ 0 := by omega
    have h1 : -(Int.gcd n d : Int) ≠ 0 := by omega
    have h2 : (d.natAbs : Int) = -d := by omega
    rw [e1, if_neg (by decide), Int.sign_eq_neg_one_of_neg hneg, h2]
    generalize (Int.gcd n d : Int) = g at *
    obtain ⟨c, hc⟩ := hgd
    obtain ⟨c', hc'⟩ := hgn
    have a1 : d = -g * -c := by rw [Int.neg_mul_neg]; exact hc
    have a2 : -d = g * -c := by rw [Int.mul_neg, ← hc]
    have a3 : n = -g * -c' := by rw [Int.neg_mul_neg]; exact hc'
    have a4 : -1 * n = g * -c' := by rw [Int.mul_neg, Int.neg_mul, Int.one_mul, ← hc']
    constructor
    · rw [a4, Int.mul_ediv_cancel_left _ h0, a3, Int.mul_fdiv_cancel_left _ h1]
    · rw [a2, Int.mul_ediv_cancel_left _ h0, a1, Int.mul_fdiv_cancel_left _ h1]
theorem law_frac_call {k : Nat} {n d : Int} {st : Store} (hd : d ≠ 0) (hs : Sm d) : callF tbl (k + 1) i__law_frac [.int n, .int d] st = .ok (encR (Rat.divInt n d)) st := by
  refine call_ret (d := d__law_frac) rfl rfl rfl ?_ rfl
  show evS (callF tbl k) b__law_frac [some (.int n), some (.int d), none, none] st = _
  have hgd : (Int.gcd n d : Int) ∣ d := Int.gcd_dvd_right ..
  have hg0 : Int.gcd n d ≠ 0 := fun e => hd (Int.gcd_eq_zero_iff.mp e).2
  have hgle : Int.gcd n d ≤ d.natAbs := Nat.le_of_dvd (by omega) (Int.natAbs_dvd_natAbs.mpr hgd)
  have hok : divOk (if decide (0 < d) then (Int.gcd n d : Int) else -(Int.gcd n d : Int)) = true := by
    have h1 : (if decide (0 < d) then (Int.gcd n d : Int) else -(Int.gcd n d : Int)).natAbs = Int.gcd n d := by
      split <;> simp
    refine divOk_of ?_ ?_
    · intro e
      rw [e] at h1
      exact hg0 h1.symm
    · show _ < _
      rw [h1]; exact Nat.lt_of_le_of_lt hgle hs
  obtain ⟨f1, f2⟩ := frac_parts (n := n) hd
  have items3 : itemsM (lenT (.cons (.nm 2) (.cons (.nm 3) .nil))) (.tup [.int (n.natAbs : Nat), .int (d.natAbs : Nat)]) st = .ok [.int (n.natAbs : Nat), .int (d.natAbs : Nat)] st := rfl
  simp only [b__law_frac, eS_seq, eS_skip, eS_ret, eS_ex, eS_asg, eS_ite, eS_raise, eE_call, eE_bi, eE_var, eE_cst, eE_glo, eE_fnv, eE_tup, eE_lst, eE_and, eE_or, eE_not, eE_ite, eE_mth, eE_chain, eE_sl, intP, slT, eA_cons, eA_nil, eT_nm, eT_tup, eT_cons, eT_nil, go_ok, go_exc, go_stuck, gv0, gvS, List.set_cons_zero, List.set_cons_succ, b_add, b_sub, b_mul, b_fdiv, b_mod, b_neg, b_abs, b_lt, b_le, b_gt, b_ge, b_eqI, b_neI, b_max, b_min, asBool_bl, mkTup1, mkTup2, b_idx, ix0, ix1, Bool.false_eq_true, reduceIte, items3, eS_while, absI_eq]
  rw [euclid (R := fun a b => [some (.int n), some (.int d), some (.int a), some (.int b)]) (fun a b => ?_) (fun a b hb => ?_) 100000 fuelW n.natAbs d.natAbs hs.tm (by decide)]
  · simp only [eS_seq, eS_skip, eS_ret, eS_ex, eS_asg, eS_ite, eS_raise, eE_call, eE_bi, eE_var, eE_cst, eE_glo, eE_fnv, eE_tup, eE_lst, eE_and, eE_or, eE_not, eE_ite, eE_mth, eE_chain, eE_sl, intP, slT, eA_cons, eA_nil, eT_nm, eT_tup, eT_cons, eT_nil, go_ok, go_exc, go_stuck, gv0, gvS, List.set_cons_zero, List.set_cons_succ, b_add, b_sub, b_mul, b_fdiv, b_mod, b_neg, b_abs, b_lt, b_le, b_gt, b_ge, b_eqI, b_neI, b_max, b_min, asBool_bl, mkTup1, mkTup2, b_idx, ix0, ix1, Bool.false_eq_true, reduceIte]
    have hite : ∀ st', (if decide (0 < d) = true then Res.ok (D.int ((n.natAbs.gcd d.natAbs : Nat) : Int)) st' else Res.ok (D.int (-((n.natAbs.gcd d.natAbs : Nat) : Int))) st') = Res.ok (D.int (if decide (0 < d) then (Int.gcd n d : Int) else -(Int.gcd n d : Int))) st' := fun st' => by
      cases decide (0 < d) <;> rfl
    simp only [hite, eS_seq, eS_skip, eS_ret, eS_ex, eS_asg, eS_ite, eS_raise, eE_call, eE_bi, eE_var, eE_cst, eE_glo, eE_fnv, eE_tup, eE_lst, eE_and, eE_or, eE_not, eE_ite, eE_mth, eE_chain, eE_sl, intP, slT, eA_cons, eA_nil, eT_nm, eT_tup, eT_cons, eT_nil, go_ok, go_exc, go_stuck, gv0, gvS, List.set_cons_zero, List.set_cons_succ, b_add, b_sub, b_mul, b_fdiv, b_mod, b_neg, b_abs, b_lt, b_le, b_gt, b_ge, b_eqI, b_neI, b_max, b_min, asBool_bl, mkTup1, mkTup2, b_idx, ix0, ix1, Bool.false_eq_true, reduceIte, hok, f1, f2]
    rfl
  · rw [bind_go]
    simp only [eS_seq, eS_skip, eS_ret, eS_ex, eS_asg, eS_ite, eS_raise, eE_call, eE_bi, eE_var, eE_cst, eE_glo, eE_fnv, eE_tup, eE_lst, eE_and, eE_or, eE_not, eE_ite, eE_mth, eE_chain, eE_sl, intP, slT, eA_cons, eA_nil, eT_nm, eT_tup, eT_cons, eT_nil, go_ok, go_exc, go_stuck, gv0, gvS, List.set_cons_zero, List.set_cons_succ, b_add, b_sub, b_mul, b_fdiv, b_mod, b_neg, b_abs, b_lt, b_le, b_gt, b_ge, b_eqI, b_neI, b_max, b_min, asBool_bl, mkTup1, mkTup2, b_idx, ix0, ix1, Bool.false_eq_true, reduceIte]
  · have e1 : decide (b ≠ 0) = true := by simpa using hb
    have it4 : ∀ x y : D, itemsM (lenT (.cons (.nm 2) (.cons (.nm 3) .nil))) (.tup [x, y]) st = .ok [x, y] st := fun _ _ => rfl
    simp only [eS_seq, eS_skip, eS_ret, eS_ex, eS_asg, eS_ite, eS_raise, eE_call, eE_bi, eE_var, eE_cst, eE_glo, eE_fnv, eE_tup, eE_lst, eE_and, eE_or, eE_not, eE_ite, eE_mth, eE_chain, eE_sl, intP, slT, eA_cons, eA_nil, eT_nm, eT_tup, eT_cons, eT_nil, go_ok, go_exc, go_stuck, gv0, gvS, List.set_cons_zero, List.set_cons_succ, b_add, b_sub, b_mul, b_fdiv, b_mod, b_neg, b_abs, b_lt, b_le, b_gt, b_ge, b_eqI, b_neI, b_max, b_min, asBool_bl, mkTup1, mkTup2, b_idx, ix0, ix1, Bool.false_eq_true, reduceIte, it4, e1, b_int]
section
variable {k : Nat} {p q : Rat} {st : Store}
theorem law_add_call (hp : Fine p) (hq : Fine q) (h : Sm ((p.den : Int) * (q.den : Int))) : callF tbl (k + 2) i__law_add [encR p, encR q] st = .ok (encR (p + q)) st := by
  refine call_ret (d := d__law_add) rfl rfl rfl ?_ rfl
  show evS (callF tbl (k + 1)) b__law_add [some (encR p), some (encR q)] st = _
  have hc := law_frac_call (k := k) (n := p.num * q.den + q.num * p.den) (d := p.den * q.den) (st := st) (den_ne p q) h
  simp only [b__law_add, eS_seq, eS_skip, eS_ret, eS_ex, eS_asg, eS_ite, eS_raise, eE_call, eE_bi, eE_var, eE_cst, eE_glo, eE_fnv, eE_tup, eE_lst, eE_and, eE_or, eE_not, eE_ite, eE_mth, eE_chain, eE_sl, intP, slT, eA_cons, eA_nil, eT_nm, eT_tup, eT_cons, eT_nil, go_ok, go_exc, go_stuck, gv0, gvS, List.set_cons_zero, List.set_cons_succ, b_add, b_sub, b_mul, b_fdiv, b_mod, b_neg, b_abs, b_lt, b_le, b_gt, b_ge, b_eqI, b_neI, b_max, b_min, asBool_bl, mkTup1, mkTup2, b_idx, ix0, ix1, Bool.false_eq_true, reduceIte, encR, mulOk_fi hp.n hq.d, mulOk_fi hq.n hp.d, mulOk_fi hp.d hq.d]
  rw [hc, go_ok, add_enc]; rfl
theorem law_mul_call (hp : Fine p) (hq : Fine q) (h : Sm ((p.den : Int) * (q.den : Int))) : callF tbl (k + 2) i__law_mul [encR p, encR q] st = .ok (encR (p * q)) st := by
  refine call_ret (d := d__law_mul) rfl rfl rfl ?_ rfl
  show evS (callF tbl (k + 1)) b__law_mul [some (encR p), some (encR q)] st = _
  have hc := law_frac_call (k := k) (n := p.num * q.num) (d := p.den * q.den) (st := st) (den_ne p q) h
  simp only [b__law_mul, eS_seq, eS_skip, eS_ret, eS_ex, eS_asg, eS_ite, eS_raise, eE_call, eE_bi, eE_var, eE_cst, eE_glo, eE_fnv, eE_tup, eE_lst, eE_and, eE_or, eE_not, eE_ite, eE_mth, eE_chain, eE_sl, intP, slT, eA_cons, eA_nil, eT_nm, eT_tup, eT_cons, eT_nil, go_ok, go_exc, go_stuck, gv0, gvS, List.set_cons_zero, List.set_cons_succ, b_add, b_sub, b_mul, b_fdiv, b_mod, b_neg, b_abs, b_lt, b_le, b_gt, b_ge, b_eqI, b_neI, b_max, b_min, asBool_bl, mkTup1, mkTup2, b_idx, ix0, ix1, Bool.false_eq_true, reduceIte, encR, mulOk_fi hp.n hq.n, mulOk_fi hp.d hq.d]
  rw [hc, go_ok, mul_enc]; rfl
theorem law_neg_call : callF tbl (k + 1) i__law_neg [encR p] st = .ok (encR (-p)) st := by
  refine call_ret (d := d__law_neg) rfl rfl rfl ?_ rfl
  show evS (callF tbl k) b__law_neg [some (encR p)] st = _
  simp only [b__law_neg, eS_seq, eS_skip, eS_ret, eS_ex, eS_asg, eS_ite, eS_raise, eE_call, eE_bi, eE_var, eE_cst, eE_glo, eE_fnv, eE_tup, eE_lst, eE_and, eE_or, eE_not, eE_ite, eE_mth, eE_chain, eE_sl, intP, slT, eA_cons, eA_nil, eT_nm, eT_tup, eT_cons, eT_nil, go_ok, go_exc, go_stuck, gv0, gvS, List.set_cons_zero, List.set_cons_succ, b_add, b_sub, b_mul, b_fdiv, b_mod, b_neg, b_abs, b_lt, b_le, b_gt, b_ge, b_eqI, b_neI, b_max, b_min, asBool_bl, mkTup1, mkTup2, b_idx, ix0, ix1, Bool.false_eq_true, reduceIte, encR, Rat.neg_num, Rat.neg_den]
theorem law_over_call (hp : Fine p) (hq : Fine q) (hq0 : q ≠ 0) (h : Sm ((p.den : Int) * q.num)) : callF tbl (k + 2) i__law_over [encR p, encR q] st = .ok (encR (p / q)) st := by
  refine call_ret (d := d__law_over) rfl rfl rfl ?_ rfl
  show evS (callF tbl (k + 1)) b__law_over [some (encR p), some (encR q)] st = _
  have h0 : q.num ≠ 0 := by rwa [Ne, Rat.num_eq_zero]
  have h1 : (p.den : Int) ≠ 0 := by have := p.den_nz; omega
  have hc := law_frac_call (k := k) (n := p.num * q.den) (d := p.den * q.num) (st := st) (Int.mul_ne_zero h1 h0) h
  simp only [b__law_over, eS_seq, eS_skip, eS_ret, eS_ex, eS_asg, eS_ite, eS_raise, eE_call, eE_bi, eE_var, eE_cst, eE_glo, eE_fnv, eE_tup, eE_lst, eE_and, eE_or, eE_not, eE_ite, eE_mth, eE_chain, eE_sl, intP, slT, eA_cons, eA_nil, eT_nm, eT_tup, eT_cons, eT_nil, go_ok, go_exc, go_stuck, gv0, gvS, List.set_cons_zero, List.set_cons_succ, b_add, b_sub, b_mul, b_fdiv, b_mod, b_neg, b_abs, b_lt, b_le, b_gt, b_ge, b_eqI, b_neI, b_max, b_min, asBool_bl, mkTup1, mkTup2, b_idx, ix0, ix1, Bool.false_eq_true, reduceIte, encR, mulOk_fi hp.n hq.d, mulOk_fi hp.d hq.n]
  rw [hc, go_ok, div_enc hq0]; rfl
end
/-- a tuple of that size with that word first -/
def formD (w : Str) (n : Nat) : D → Bool
  | .tup (.str x :: xs) => decide (xs.length + 1 = n) && (x == w)
  | _ => false
theorem has_form_two {k : Nat} {a b : D} {w : Str} {st : Store} (hw : PyData.strOk w = true) (ha : plainD a = true) (hs : ∀ x, a = .str x → PyData.strOk x = true) : callF tbl (k + 1) i_has_form [.tup [a, b], .str w, .int 2] st = .ok (.bl (formD w 2 (.tup [a, b]))) st := by
  refine call_ret (d := d_has_form) rfl rfl rfl ?_ rfl
  show evS (callF tbl k) b_has_form [some (.tup [a, b]), some (.str w), some (.int 2)] st = _
  have e2 : ((([a, b] : List D).length : Int) == 2) = true := rfl
  cases a with
  | str x =>
    have hx := hs x rfl
    have e3 : biV .eq [.str x, .str w] st = .ok (.bl (x == w)) st := by
      show (if okD 60 (.str x) && okD 60 (.str w) then Res.ok (D.bl (eqv (.str x) (.str w))) st else .stuck) = _
      rw [show okD 60 (.str x) = true from hx, show okD 60 (.str w) = true from hw]
      rfl
    have e4 : isinstV [.str] (.str x) st = .ok (.bl true) st := rfl
    simp only [b_has_form, eS_seq, eS_skip, eS_ret, eS_ex, eS_asg, eS_ite, eS_raise, eE_call, eE_bi, eE_var, eE_cst, eE_glo, eE_fnv, eE_tup, eE_lst, eE_and, eE_or, eE_not, eE_ite, eE_mth, eE_chain, eE_sl, intP, slT, eA_cons, eA_nil, eT_nm, eT_tup, eT_cons, eT_nil, go_ok, go_exc, go_stuck, gv0, gvS, List.set_cons_zero, List.set_cons_succ, b_add, b_sub, b_mul, b_fdiv, b_mod, b_neg, b_abs, b_lt, b_le, b_gt, b_ge, b_eqI, b_neI, b_max, b_min, asBool_bl, mkTup1, mkTup2, b_idx, ix0, ix1, Bool.false_eq_true, reduceIte, b_isinst, isT, b_len, lenT', e2, e4, e3]
    rfl
  | ref _ => cases ha
  | fn _ => cases ha
  | lok _ => cases ha
  | _ => rfl
/-- a tuple of another size, or no tuple -/
theorem has_form_no {k : Nat} {v : D} {w : Str} {st : Store} (hp : plainD v = true) (h : ∀ xs, v = .tup xs → xs.length ≠ 2) : callF tbl (k + 1) i_has_form [v, .str w, .int 2] st = .ok (.bl false) st := by
  refine call_ret (d := d_has_form) rfl rfl rfl ?_ rfl
  show evS (callF tbl k) b_has_form [some v, some (.str w), some (.int 2)] st = _
  cases v with
  | tup xs =>
    have e2 : ((xs.length : Int) == 2) = false := by
      have := h xs rfl
      have : ¬ ((xs.length : Int) = 2) := by omega
      simpa using this
    simp only [b_has_form, eS_seq, eS_skip, eS_ret, eS_ex, eS_asg, eS_ite, eS_raise, eE_call, eE_bi, eE_var, eE_cst, eE_glo, eE_fnv, eE_tup, eE_lst, eE_and, eE_or, eE_not, eE_ite, eE_mth, eE_chain, eE_sl, intP, slT, eA_cons, eA_nil, eT_nm, eT_tup, eT_cons, eT_nil, go_ok, go_exc, go_stuck, gv0, gvS, List.set_cons_zero, List.set_cons_succ, b_add, b_sub, b_mul, b_fdiv, b_mod, b_neg, b_abs, b_lt, b_le, b_gt, b_ge, b_eqI, b_neI, b_max, b_min, asBool_bl, mkTup1, mkTup2, b_idx, ix0, ix1, Bool.false_eq_true, reduceIte, b_isinst, isT, b_len, lenT', e2]
  | ref _ => cases hp
  | fn _ => cases hp
  | lok _ => cases hp
  | _ => rfl
theorem isRatio_enc (q : Rat) : isRatioD (encR q) = true := by
  have h1 : (0 : Int) < (q.den : Int) := by have := q.den_pos; omega
  have h2 : Int.gcd q.num q.den = 1 := q.reduced
  show (decide (0 < (q.den : Int)) && ((Int.gcd q.num q.den : Int) == 1)) = true
  rw [h2, decide_eq_true h1]; rfl
theorem ask_enc {q : Rat} (h : q.den < 2 ^ 100000) : RatAsk (encR q) := ⟨rfl, rfl, fun d e => by cases e; exact (by show ((q.den : Int)).natAbs < _; rw [Int.natAbs_natCast]; exact h)⟩
theorem check_call {k : Nat} {qs : List Rat} {r : Int} {st : Store} (hq : ∀ q ∈ qs, q.den < 2 ^ 100000) (h1 : 1 ≤ qs.length) (h2 : qs.length ≤ 40) (h3 : 0 ≤ r) (h4 : r ≤ 20) : callF tbl (k + 3) i_check_recursion [.tup (qs.map encR), .int r] st = .ok .non st := by
  have hc : evE (callF tbl (k + 2)) (.comp false (.call 3 (.cons (.var 2) .nil)) [2] true (.sq (.var 0)) (.cst (.bl true))) [some (.tup (qs.map encR)), some (.int r), none] st = .ok (.lst ((qs.map encR).map fun x => D.bl (isRatioD x))) st := by
    rw [List.map_map]
    refine comp_runM (zs := qs) (e := encR) (r := (fun x => D.bl (isRatioD x)) ∘ encR) rfl (fun q hq' => cBody_one ?_) (by omega)
    simp only [eS_seq, eS_skip, eS_ret, eS_ex, eS_asg, eS_ite, eS_raise, eE_call, eE_bi, eE_var, eE_cst, eE_glo, eE_fnv, eE_tup, eE_lst, eE_and, eE_or, eE_not, eE_ite, eE_mth, eE_chain, eE_sl, intP, slT, eA_cons, eA_nil, eT_nm, eT_tup, eT_cons, eT_nil, go_ok, go_exc, go_stuck, gv0, gvS, List.set_cons_zero, List.set_cons_succ, b_add, b_sub, b_mul, b_fdiv, b_mod, b_neg, b_abs, b_lt, b_le, b_gt, b_ge, b_eqI, b_neI, b_max, b_min, asBool_bl, mkTup1, mkTup2, b_idx, ix0, ix1, Bool.false_eq_true, reduceIte, is_ratio_call (k := k) (ask_enc (hq q hq')), Function.comp]
  have hall : (qs.map encR).all isRatioD = true := by
    rw [List.all_eq_true]
    intro x hx
    obtain ⟨q, _, rfl⟩ := List.mem_map.mp hx
    exact isRatio_enc q
  have hi := is_integer_call (k := k + 1) (d := .int r) (st := st) rfl
  have e1 : decide ((1 : Int) ≤ ((qs.map encR).length : Int)) = true := by rw [List.length_map]; exact decide_eq_true (by omega)
  have e2 : decide (((qs.map encR).length : Int) ≤ 40) = true := by rw [List.length_map]; exact decide_eq_true (by omega)
  have e3 : decide (r < 0) = false := decide_eq_false (by omega)
  have e4 : decide ((20 : Int) < r) = false := decide_eq_false (by omega)
  refine call_nx (d := d_check_recursion) (ρ := [some (.tup (qs.map encR)), some (.int r), none]) rfl rfl rfl ?_
  show evS (callF tbl (k + 2)) b_check_recursion [some (.tup (qs.map encR)), some (.int r), none] st = _
  simp only [b_check_recursion, eS_seq, eS_skip, eS_ret, eS_ex, eS_asg, eS_ite, eS_raise, eE_call, eE_bi, eE_var, eE_cst, eE_glo, eE_fnv, eE_tup, eE_lst, eE_and, eE_or, eE_not, eE_ite, eE_mth, eE_chain, eE_sl, intP, slT, eA_cons, eA_nil, eT_nm, eT_tup, eT_cons, eT_nil, go_ok, go_exc, go_stuck, gv0, gvS, List.set_cons_zero, List.set_cons_succ, b_add, b_sub, b_mul, b_fdiv, b_mod, b_neg, b_abs, b_lt, b_le, b_gt, b_ge, b_eqI, b_neI, b_max, b_min, asBool_bl, mkTup1, mkTup2, b_idx, ix0, ix1, Bool.false_eq_true, reduceIte, b_isinst, isT, b_len, lenT', b_all, hc, allV_map, hall, c_MOST_ROW, c_MOST_RECURSION, e1, e2, e3, e4, hi, isInt, Bool.not_true, Bool.not_false]
def decR : D → Rat
  | .tup [.int n, .int d] => Rat.divInt n d
  | _ => 0
theorem enc_dec {x : D} (h : isRatioD x = true) : encR (decR x) = x := by
  unfold isRatioD at h
  split at h
  · rename_i n d
    rw [Bool.and_eq_true] at h
    have h1 : 0 < d := of_decide_eq_true h.1
    have h2 : (Int.gcd n d : Int) = 1 := eq_of_beq h.2
    have h3 : Int.gcd n d = 1 := by omega
    obtain ⟨f1, f2⟩ := frac_parts (n := n) (d := d) (by omega)
    have e1 : decide (0 < d) = true := h.1
    rw [e1, if_pos rfl, h2, Int.fdiv_one] at f1 f2
    show D.tup [.int (Rat.divInt n d).num, .int ((Rat.divInt n d).den : Int)] = _
    rw [← f1, ← f2]
  · cases h
theorem dec_enc (q : Rat) : decR (encR q) = q := Rat.num_divInt_den q
theorem enc_inj {p q : Rat} (h : encR p = encR q) : p = q := by rw [← dec_enc p, ← dec_enc q, h]
theorem encs_of {xs : List D} (h : xs.all isRatioD = true) : (xs.map decR).map encR = xs := by
  rw [List.map_map]
  rw [List.all_eq_true] at h
  have : ∀ x ∈ xs, (encR ∘ decR) x = x := fun x hx => enc_dec (h x hx)
  calc xs.map (encR ∘ decR) = xs.map id := List.map_congr_left this
    _ = xs := List.map_id _
theorem eqv_enc (p q : Rat) : eqv (encR p) (encR q) = decide (p = q) := by
  show (p.num == q.num && ((p.den : Int) == (q.den : Int) && true)) = _
  rw [Bool.and_true, Bool.eq_iff_iff, Bool.and_eq_true, decide_eq_true_eq, beq_iff_eq, beq_iff_eq]
  constructor
  · rintro ⟨h1, h2⟩
    exact Rat.ext h1 (by omega)
  · rintro rfl
    exact ⟨rfl, rfl⟩
theorem b_eqR {p q : Rat} {st : Store} : biV .eq [encR p, encR q] st = .ok (.bl (decide (p = q))) st := by
  show (if okD 60 (encR p) && okD 60 (encR q) then Res.ok (D.bl (eqv (encR p) (encR q))) st else .stuck) = _
  rw [eqv_enc]; rfl
end K82
set_option Elab.async false
set_option linter.all false
set_option maxRecDepth 100000
set_option maxHeartbeats 1000000
namespace K82
open PySem PC
section
variable {k : Nat} {p q : Rat} {st : Store} {a b : Nat}
theorem sz_fine (h : Sz p a) (ha : a ≤ 1000000) : Fine p := ⟨Nat.lt_of_lt_of_le h.1 (pow_le2 ha), by show ((p.den : Int)).natAbs < _; rw [Int.natAbs_natCast]; exact Nat.lt_of_lt_of_le h.2 (pow_le2 ha)⟩
theorem sz_sm (hp : Sz p a) (hq : Sz q b) (h : a + b ≤ 9000) : Sm ((p.den : Int) * (q.den : Int)) := by
  show ((p.den : Int) * (q.den : Int)).natAbs < _
  rw [Int.natAbs_mul, Int.natAbs_natCast, Int.natAbs_natCast]
  exact Nat.lt_of_lt_of_le (mul_lt_pow hp.2 hq.2) (pow_le2 h)
theorem sz_smn (hp : Sz p a) (hq : Sz q b) (h : a + b ≤ 9000) : Sm ((p.den : Int) * q.num) := by
  show ((p.den : Int) * q.num).natAbs < _
  rw [Int.natAbs_mul, Int.natAbs_natCast]
  exact Nat.lt_of_lt_of_le (mul_lt_pow hp.2 hq.1) (pow_le2 h)
theorem sum_sz (hp : Sz p a) (hq : Sz q b) (h : a + b ≤ 9000) : callF tbl (k + 3) 4 [encR p, encR q] st = .ok (encR (p + q)) st := ratio_sum_call (sz_fine hp (by omega)) (sz_fine hq (by omega)) (sz_sm hp hq h)
theorem less_sz (hp : Sz p a) (hq : Sz q b) (h : a + b ≤ 9000) : callF tbl (k + 3) 5 [encR p, encR q] st = .ok (encR (p - q)) st := ratio_less_call (sz_fine hp (by omega)) (sz_fine hq (by omega)) (sz_sm hp hq h)
theorem product_sz (hp : Sz p a) (hq : Sz q b) (h : a + b ≤ 9000) : callF tbl (k + 3) 6 [encR p, encR q] st = .ok (encR (p * q)) st := ratio_product_call (sz_fine hp (by omega)) (sz_fine hq (by omega)) (sz_sm hp hq h)
theorem over_sz (hp : Sz p a) (hq : Sz q b) (hq0 : q ≠ 0) (h : a + b ≤ 9000) : callF tbl (k + 3) 7 [encR p, encR q] st = .ok (encR (p / q)) st := ratio_over_call (sz_fine hp (by omega)) (sz_fine hq (by omega)) hq0 (sz_smn hp hq h)
theorem ladd_sz (hp : Sz p a) (hq : Sz q b) (h : a + b ≤ 9000) : callF tbl (k + 2) 25 [encR p, encR q] st = .ok (encR (p + q)) st := law_add_call (sz_fine hp (by omega)) (sz_fine hq (by omega)) (sz_sm hp hq h)
theorem lmul_sz (hp : Sz p a) (hq : Sz q b) (h : a + b ≤ 9000) : callF tbl (k + 2) 26 [encR p, encR q] st = .ok (encR (p * q)) st := law_mul_call (sz_fine hp (by omega)) (sz_fine hq (by omega)) (sz_sm hp hq h)
theorem lneg_c : callF tbl (k + 1) 27 [encR p] st = .ok (encR (-p)) st := law_neg_call
theorem lover_sz (hp : Sz p a) (hq : Sz q b) (hq0 : q ≠ 0) (h : a + b ≤ 9000) : callF tbl (k + 2) 28 [encR p, encR q] st = .ok (encR (p / q)) st := law_over_call (sz_fine hp (by omega)) (sz_fine hq (by omega)) hq0 (sz_smn hp hq h)
end
/-- a list of fractions by its places -/
def fr (C : Nat) (u : Nat → Rat) : List D := (List.range C).map fun c => encR (u c)
theorem fr_len {C : Nat} {u : Nat → Rat} : (fr C u).length = C := by unfold fr; rw [List.length_map, List.length_range]
theorem fr_get {C c : Nat} {u : Nat → Rat} (h : c < C) : (fr C u)[c]? = some (encR (u c)) := get_range h
theorem fr_ext {C : Nat} {u v : Nat → Rat} (h : ∀ c, c < C → u c = v c) : fr C u = fr C v := List.map_congr_left fun c hc => by rw [h c (List.mem_range.mp hc)]
theorem fr_add {a b : Nat} {u : Nat → Rat} : fr (a + b) u = fr a u ++ fr b (fun c => u (a + c)) := by
  unfold fr
  rw [List.range_add, List.map_append, List.map_map]
  rfl
theorem enc_num0 {q : Rat} : (q.num == 0) = decide (q = 0) := by
  rw [Bool.eq_iff_iff, beq_iff_eq, decide_eq_true_eq, Rat.num_eq_zero]
theorem zip_fr {C : Nat} {u v : Nat → Rat} : zipD (fr C u) (fr C v) = (List.range C).map fun c => D.tup [encR (u c), encR (v c)] := by
  have h : ∀ l : List Nat, zipD (l.map fun c => encR (u c)) (l.map fun c => encR (v c)) = l.map fun c => D.tup [encR (u c), encR (v c)] := fun l => by
    induction l with
    | nil => rfl
    | cons c l ih =>
      show D.tup [encR (u c), encR (v c)] :: zipD (l.map fun c => encR (u c)) (l.map fun c => encR (v c)) = _
      rw [ih]; rfl
  exact h _
theorem enc_below0 {n : Nat} {q : Rat} : below n (encR q) = true := rfl
theorem fr_below {n C : Nat} {u : Nat → Rat} : belows n (fr C u) = true := belows_map fun _ _ => rfl
theorem fr_sz {C : Nat} {u : Nat → Rat} : szs (fr C u) ≤ C * 6 := by
  have := szs_map (m := 5) (e := fun c => encR (u c)) (zs := List.range C) (fun c _ => Nat.le_refl _)
  rwa [List.length_range] at this
/-- a row, its right side, its place -/
def vx (w : Nat) (v : Nat → Nat → Rat) (i c : Nat) : Rat := if c ≤ w then v i c else if c = w + 1 + i then 1 else 0
def ax (w : Nat) (A : Nat → Nat → Int) (R : Int) (i c : Nat) : Int := if c ≤ w then A i c else if c = w + 1 + i then R else 0
section
variable {w many B : Nat} {v : Nat → Nat → Rat} {A : Nat → Nat → Int} {R : Int}
theorem vx_ax (hR : R ≠ 0) (hv : ∀ i c, i < many → c < w + 1 → v i c = (A i c : Rat) / (R : Rat)) : ∀ i c, i < many → c < w + 1 + many → vx w v i c = (ax w A R i c : Rat) / (R : Rat) := fun i c hi hc => by
  unfold vx ax
  have := intCast_ne hR
  by_cases h1 : c ≤ w
  · rw [if_pos h1, if_pos h1]; exact hv i c hi (by omega)
  · rw [if_neg h1, if_neg h1]
    by_cases h2 : c = w + 1 + i
    · rw [if_pos h2, if_pos h2]; grind
    · rw [if_neg h2, if_neg h2]
      show (0 : Rat) = 0 / _
      grind
theorem ax_le (hA : ∀ i c, i < many → c < w + 1 → (A i c).natAbs ≤ B) (hRB : R.natAbs ≤ B) : ∀ i c, i < many → c < w + 1 + many → (ax w A R i c).natAbs ≤ B := fun i c hi hc => by
  unfold ax
  by_cases h1 : c ≤ w
  · rw [if_pos h1]; exact hA i c hi (by omega)
  · rw [if_neg h1]
    by_cases h2 : c = w + 1 + i
    · rw [if_pos h2]; exact hRB
    · rw [if_neg h2]; exact Nat.zero_le _
/-- the row that the loop begins with -/
theorem own_start {i : Nat} (hi : i < many) : fr w (v i) ++ [encR (v i w)] ++ (List.range many).map (fun k : Nat => D.tup [.int (if ((k : Int) == (i : Int)) then 1 else 0), .int 1]) = fr (w + 1 + many) (vx w v i) := by
  rw [fr_add, fr_add]
  have e1 : fr w (vx w v i) = fr w (v i) := fr_ext fun c hc => by
    show (if c ≤ w then v i c else if c = w + 1 + i then 1 else 0) = _
    rw [if_pos (by omega)]
  have e2 : fr 1 (fun c => vx w v i (w + c)) = [encR (v i w)] := by
    show [encR (vx w v i (w + 0))] = _
    unfold vx
    rw [if_pos (by omega), Nat.add_zero]
  have e3 : fr many (fun c => vx w v i (w + 1 + c)) = (List.range many).map (fun k : Nat => D.tup [.int (if ((k : Int) == (i : Int)) then 1 else 0), .int 1]) := List.map_congr_left fun c hc => by
    show encR (if w + 1 + c ≤ w then v i (w + 1 + c) else if w + 1 + c = w + 1 + i then 1 else 0) = _
    rw [if_neg (by omega)]
    by_cases e : c = i
    · subst e
      rw [if_pos rfl, if_pos (by simp)]; rfl
    · rw [if_neg (by omega), if_neg (by simp; omega)]; rfl
  rw [e1, e2, e3]
end
def encK (C : Nat) (piv : Nat → Nat) (K : Nat → Nat → Rat) (s : Nat) : D := .tup [.int (piv s : Nat), .lst (fr C (K s))]
def kcell (C j : Nat) (piv : Nat → Nat) (K : Nat → Nat → Rat) : List D := (List.range j).map (encK C piv K)
theorem sqRef {n : Nat} {st : Store} : srcOf (.ref n) st = .ok (.cell n) st := rfl
theorem sqL {xs : List D} {st : Store} : srcOf (.lst xs) st = .ok (.items xs) st := rfl
theorem get_last {st : Store} {c : Cell} : (st ++ [c])[st.length]? = some c := by simp
theorem set_last {st : Store} {c c' : Cell} : (st ++ [c]).set st.length c' = st ++ [c'] := by simp
/-- one kept row taken off -/
theorem solved_inner {k w many j B i : Nat} {v : Nat → Nat → Rat} {A : Nat → Nat → Int} {R : Int} {idx piv : Nat → Nat} {K : Nat → Nat → Rat} {st : Store} {r0 r1 : Option D} (hR : R ≠ 0) (hB : 1 ≤ B) (hRB : R.natAbs ≤ B)
    (hv : ∀ i c, i < many → c < w + 1 → v i c = (A i c : Rat) / (R : Rat)) (hA : ∀ i c, i < many → c < w + 1 → (A i c).natAbs ≤ B) (hβ : (w + 1) * ((2 * (w + 1) * B) ^ w * B) < 2 ^ 1000) (hm2 : many ≤ 40) (hw : w ≤ 20) (hi : i < many)
    (h : Kept (vx w v) w i j idx piv K) {a5 a7 a8 a9 a10 : Option D} :
    Wp (evS (callF tbl (k + 5)) (.for_ (.tup (.cons (.nm 7) (.cons (.nm 8) .nil))) (.sq (.var 4)) (.seq (.ite (.bi .ne (.cons (.bi .idx (.cons (.bi .idx (.cons (.var 6) (.cons (.var 7) .nil))) (.cons (.cst (.int 0)) .nil))) (.cons (.cst (.int 0)) .nil))) (.seq (.asg (.nm 9) (.bi .idx (.cons (.var 6) (.cons (.var 7) .nil)))) (.seq (.asg (.nm 6) (.comp false (.call 5 (.cons (.var 14) (.cons (.call 6 (.cons (.var 9) (.cons (.var 15) .nil))) .nil))) [14, 15] false (.zip (.var 6) (.var 8)) (.cst (.bl true)))) .skip)) .skip) .skip))
      [r0, r1, some (.int many), some (.int w), some (.ref st.length), a5, some (.lst (fr (w + 1 + many) (vx w v i))), a7, a8, a9, a10, none, none, none, none, none] (st ++ [.lst (kcell (w + 1 + many) j piv K)]))
      fun f st' => st' = st ++ [.lst (kcell (w + 1 + many) j piv K)] ∧ ∃ u a7 a8 a9, Red (vx w v) j idx piv i u ∧ f = .nx [r0, r1, some (.int many), some (.int w), some (.ref st.length), a5, some (.lst (fr (w + 1 + many) u)), a7, a8, a9, a10, none, none, none, none, none] := by
  refine wp_cell (xs := kcell (w + 1 + many) j piv K) (n := st.length) rfl (fun s ρ st' => st' = st ++ [.lst (kcell (w + 1 + many) j piv K)] ∧ ∃ u a7 a8 a9, Red (vx w v) s idx piv i u ∧ ρ = [r0, r1, some (.int many), some (.int w), some (.ref st.length), a5, some (.lst (fr (w + 1 + many) u)), a7, a8, a9, a10, none, none, none, none, none]) ?_ ?_ ?_ ?_
  · rintro s ρ st' ⟨rfl, _⟩; exact get_last
  · exact ⟨rfl, _, _, _, _, red_zero, rfl⟩
  · rintro s x hx ρ st' ⟨rfl, u, b7, b8, b9, hr, rfl⟩
    obtain ⟨hs, rfl⟩ := get_range_some hx
    have hp := h.pv s hs
    have hpu : (fr (w + 1 + many) u)[piv s]? = some (encR (u (piv s))) := fr_get (by omega)
    have hix : ∀ st', idxV (.lst (fr (w + 1 + many) u)) (.int (piv s : Nat)) st' = .ok (encR (u (piv s))) st' := fun st' => ix_lst hpu
    have hlow : ∀ st', biV .ne [.int (u (piv s)).num, .int 0] st' = .ok (.bl (!decide (u (piv s) = 0))) st' := fun st' => by rw [b_neI, enc_num0]
    have hstep := h.less hs hr
    have hszu : ∀ c, c < w + 1 + many → Sz (u c) 1000 := fun c hc => (h.small hR hB (vx_ax hR hv) (ax_le hA hRB) hRB (by omega) (by omega) (Nat.le_of_lt hs) hi hr).sz hc hβ hβ
    have hszK : ∀ c, c < w + 1 + many → Sz (K s c) 1000 := fun c hc => (h.smallK hR hB (vx_ax hR hv) (ax_le hA hRB) hRB (by omega) (by omega) hs).sz hc hβ hβ
    simp only [encK, eT_tup, it_two, it_three, eT_cons, eT_nm, eT_nil, go_ok, List.set_cons_zero, List.set_cons_succ]
    refine wp_seq ?_
    refine wp_iteB (x := !decide (u (piv s) = 0)) (by simp only [eS_seq, eS_skip, eS_ret, eS_ex, eS_asg, eS_ite, eS_raise, eE_call, eE_bi, eE_var, eE_cst, eE_glo, eE_fnv, eE_tup, eE_lst, eE_and, eE_or, eE_not, eE_ite, eE_mth, eE_chain, eE_sl, intP, slT, eA_cons, eA_nil, eT_nm, eT_tup, eT_cons, eT_nil, go_ok, go_exc, go_stuck, gv0, gvS, List.set_cons_zero, List.set_cons_succ, b_add, b_sub, b_mul, b_fdiv, b_mod, b_neg, b_abs, b_lt, b_le, b_gt, b_ge, b_eqI, b_neI, b_max, b_min, asBool_bl, mkTup1, mkTup2, b_idx, ix0, ix1, Bool.false_eq_true, reduceIte, b_isinst, b_len, b_all, b_any, b_tuple, b_list, b_append, b_pop, b_rev, b_int, b_isN, b_isNN, eT_sub, mkL_in, mkL_new, Bool.not_true, Bool.not_false, it_two, it_three, lenL, lenTu, mkLst_nil, mkTup3, isTL, isTT, go_assoc, hix, encR, hlow] <;> rfl) (fun hx => ?_) (fun hx => ?_)
    · refine wp_seq (wp_asg (d := encR (u (piv s))) (by simp only [eS_seq, eS_skip, eS_ret, eS_ex, eS_asg, eS_ite, eS_raise, eE_call, eE_bi, eE_var, eE_cst, eE_glo, eE_fnv, eE_tup, eE_lst, eE_and, eE_or, eE_not, eE_ite, eE_mth, eE_chain, eE_sl, intP, slT, eA_cons, eA_nil, eT_nm, eT_tup, eT_cons, eT_nil, go_ok, go_exc, go_stuck, gv0, gvS, List.set_cons_zero, List.set_cons_succ, b_add, b_sub, b_mul, b_fdiv, b_mod, b_neg, b_abs, b_lt, b_le, b_gt, b_ge, b_eqI, b_neI, b_max, b_min, asBool_bl, mkTup1, mkTup2, b_idx, ix0, ix1, Bool.false_eq_true, reduceIte, b_isinst, b_len, b_all, b_any, b_tuple, b_list, b_append, b_pop, b_rev, b_int, b_isN, b_isNN, eT_sub, mkL_in, mkL_new, Bool.not_true, Bool.not_false, it_two, it_three, lenL, lenTu, mkLst_nil, mkTup3, isTL, isTT, go_assoc, hix] <;> rfl) ?_)
      refine wp_seq (wp_asgP (d := .lst (fr (w + 1 + many) (fun c => u c - u (piv s) * K s c))) ?_ ?_)
      · refine comp_runM (zs := List.range (w + 1 + many)) (e := fun c => D.tup [encR (u c), encR (K s c)]) (r := fun c => encR (u c - u (piv s) * K s c)) ?_ (fun c hc => cBody_two ?_) (by rw [List.length_range]; omega)
        · rw [← zip_fr]; rfl
        · have hc := List.mem_range.mp hc
          have h1 := fun st' => product_sz (k := k + 2) (st := st') (hszu (piv s) (by omega)) (hszK c hc) (by omega)
          have h2 := fun st' => less_sz (k := k + 2) (st := st') (hszu c hc) ((hszu (piv s) (by omega)).mul (hszK c hc)) (by omega)
          simp only [eS_seq, eS_skip, eS_ret, eS_ex, eS_asg, eS_ite, eS_raise, eE_call, eE_bi, eE_var, eE_cst, eE_glo, eE_fnv, eE_tup, eE_lst, eE_and, eE_or, eE_not, eE_ite, eE_mth, eE_chain, eE_sl, intP, slT, eA_cons, eA_nil, eT_nm, eT_tup, eT_cons, eT_nil, go_ok, go_exc, go_stuck, gv0, gvS, List.set_cons_zero, List.set_cons_succ, b_add, b_sub, b_mul, b_fdiv, b_mod, b_neg, b_abs, b_lt, b_le, b_gt, b_ge, b_eqI, b_neI, b_max, b_min, asBool_bl, mkTup1, mkTup2, b_idx, ix0, ix1, Bool.false_eq_true, reduceIte, b_isinst, b_len, b_all, b_any, b_tuple, b_list, b_append, b_pop, b_rev, b_int, b_isN, b_isNN, eT_sub, mkL_in, mkL_new, Bool.not_true, Bool.not_false, it_two, it_three, lenL, lenTu, mkLst_nil, mkTup3, isTL, isTT, go_assoc, h1, h2]
      · exact wp_skip (wp_skip ⟨rfl, _, _, _, _, hstep, rfl⟩)
    · have h0 : u (piv s) = 0 := by simpa using hx
      refine wp_skip (wp_skip ⟨rfl, u, _, _, _, ?_, rfl⟩)
      have e : (fun col => u col - u (piv s) * K s col) = u := funext fun col => by rw [h0]; grind
      rwa [e] at hstep
  · rintro ρ st' ⟨rfl, u, b7, b8, b9, hr, rfl⟩
    have hl : (kcell (w + 1 + many) j piv K).length = j := by unfold kcell; rw [List.length_map, List.length_range]
    rw [hl] at hr
    exact ⟨rfl, u, _, _, _, hr, rfl⟩
end K82
namespace K82
open PySem PC
theorem rsum_snoc {qs : List Rat} {q : Rat} : rsum (qs ++ [q]) = rsum qs + q := fold_snoc _ _ _ _
theorem rsum_range {n : Nat} {f : Nat → Rat} : rsum ((List.range n).map f) = sumR n f := by
  induction n with
  | zero => rfl
  | succ n ih => rw [List.range_succ, List.map_append, List.map_singleton, rsum_snoc, ih]; rfl
theorem rsum_filter {n : Nat} {f : Nat → Rat} {p : Nat → Bool} : rsum (((List.range n).filter p).map f) = sumR n (fun i => if p i then f i else 0) := by
  induction n with
  | zero => rfl
  | succ n ih =>
    rw [List.range_succ, List.filter_append, List.map_append, sumR_succ, ← ih]
    cases h : p n with
    | true =>
      have : List.filter p [n] = [n] := by simp [h]
      rw [this, List.map_singleton, rsum_snoc, if_pos rfl]
    | false =>
      have : List.filter p [n] = [] := by simp [h]
      rw [this, List.map_nil, List.append_nil, if_neg (by decide)]
      grind
/-- over one denominator -/
def Ov (z : Int) (X : Nat) (q : Rat) : Prop := ∃ n : Int, n.natAbs ≤ X ∧ q = (n : Rat) / (z : Rat)
theorem ov_sz {z : Int} {X b : Nat} {q : Rat} (h : Ov z X q) (hz : z ≠ 0) (hX : X < 2 ^ b) (hzb : z.natAbs < 2 ^ b) : Sz q b := by
  obtain ⟨n, hn, rfl⟩ := h
  exact frac_sz hz (Nat.lt_of_le_of_lt hn hX) hzb
theorem ov_add {z : Int} {X Y : Nat} {p q : Rat} (hp : Ov z X p) (hq : Ov z Y q) : Ov z (X + Y) (p + q) := by
  obtain ⟨n, hn, rfl⟩ := hp
  obtain ⟨m, hm, rfl⟩ := hq
  refine ⟨n + m, by omega, ?_⟩
  rw [Rat.intCast_add]
  grind
theorem ov_mul {z z' : Int} {X Y : Nat} {p q : Rat} (hp : Ov z X p) (hq : Ov z' Y q) (hz : z ≠ 0) (hz' : z' ≠ 0) : Ov (z * z') (X * Y) (p * q) := by
  obtain ⟨n, hn, rfl⟩ := hp
  obtain ⟨m, hm, rfl⟩ := hq
  refine ⟨n * m, by rw [Int.natAbs_mul]; exact Nat.mul_le_mul hn hm, ?_⟩
  have h1 := intCast_ne hz
  have h2 := intCast_ne hz'
  rw [Rat.intCast_mul, Rat.intCast_mul]
  grind
theorem ov_zero {z : Int} {X : Nat} : Ov z X 0 := ⟨0, Nat.zero_le _, by show (0 : Rat) = 0 / _; grind⟩
theorem ov_mono {z : Int} {X Y : Nat} {q : Rat} (h : Ov z X q) (hXY : X ≤ Y) : Ov z Y q := by
  obtain ⟨n, hn, e⟩ := h
  exact ⟨n, Nat.le_trans hn hXY, e⟩
theorem total_ov {k b X : Nat} {z : Int} {st : Store} {qs : List Rat} (hz : z ≠ 0) (hzb : z.natAbs < 2 ^ b) (hq : ∀ q ∈ qs, Ov z X q) (hX : qs.length * X < 2 ^ b) (hX1 : X < 2 ^ b) (hb : 2 * b ≤ 9000) : callF tbl (k + 4) 9 [.lst (qs.map encR)] st = .ok (encR (rsum qs)) st := by
  refine Wp.eq (call_wp (d := d_total_of) rfl rfl rfl ?_)
  show Wp (evS (callF tbl (k + 3)) b_total_of [some (.lst (qs.map encR)), none, none] st) _
  unfold b_total_of
  refine wp_seq (wp_asgP (d := encR 0) (by simp only [eS_seq, eS_skip, eS_ret, eS_ex, eS_asg, eS_ite, eS_raise, eE_call, eE_bi, eE_var, eE_cst, eE_glo, eE_fnv, eE_tup, eE_lst, eE_and, eE_or, eE_not, eE_ite, eE_mth, eE_chain, eE_sl, intP, slT, eA_cons, eA_nil, eT_nm, eT_tup, eT_cons, eT_nil, go_ok, go_exc, go_stuck, gv0, gvS, List.set_cons_zero, List.set_cons_succ, b_add, b_sub, b_mul, b_fdiv, b_mod, b_neg, b_abs, b_lt, b_le, b_gt, b_ge, b_eqI, b_neI, b_max, b_min, asBool_bl, mkTup1, mkTup2, b_idx, ix0, ix1, Bool.false_eq_true, reduceIte, b_isinst, b_len, b_all, b_any, b_tuple, b_list, b_append, b_pop, b_rev, b_int, b_isN, b_isNN, eT_sub, mkL_in, mkL_new, Bool.not_true, Bool.not_false, it_two, it_three, lenL, lenTu, mkLst_nil, mkTup3, isTL, isTT, go_assoc] <;> rfl) ?_)
  refine wp_seq ((wp_forS (xs := qs.map encR) (Q := fun f st' => ∃ x0 x2, f = .nx [x0, some (encR (rsum qs)), x2] ∧ st' = st) rfl (fun i ρ st' => st' = st ∧ Ov z (i * X) (rsum (qs.take i)) ∧ ∃ x0 x2, ρ = [x0, some (encR (rsum (qs.take i))), x2]) ?_ ?_ ?_).mono fun f st' h => ?_)
  · exact ⟨rfl, ov_zero, _, _, rfl⟩
  · rintro i x hx ρ st' ⟨rfl, ho, x0, x2, rfl⟩
    rw [List.getElem?_map] at hx
    obtain ⟨q, hq', rfl⟩ : ∃ q, qs[i]? = some q ∧ encR q = x := by
      cases hz : qs[i]? with
      | none => rw [hz] at hx; cases hx
      | some q => rw [hz] at hx; exact ⟨q, rfl, Option.some.inj hx⟩
    have hi : i < qs.length := (List.getElem?_eq_some_iff.mp hq').1
    have ht : qs.take (i + 1) = qs.take i ++ [q] := by rw [List.take_add_one, hq']; rfl
    have hm := hq q (List.mem_of_getElem? hq')
    have hs := sum_sz (k := k) (st := st') (ov_sz ho hz (Nat.lt_of_le_of_lt (Nat.mul_le_mul_right _ (Nat.le_of_lt hi)) hX) hzb) (ov_sz hm hz hX1 hzb) (by omega)
    simp only [eT_tup, it_two, it_three, eT_cons, eT_nm, eT_nil, go_ok, List.set_cons_zero, List.set_cons_succ]
    refine wp_seq (wp_asgP (d := encR (rsum (qs.take i) + q)) (by simp only [eS_seq, eS_skip, eS_ret, eS_ex, eS_asg, eS_ite, eS_raise, eE_call, eE_bi, eE_var, eE_cst, eE_glo, eE_fnv, eE_tup, eE_lst, eE_and, eE_or, eE_not, eE_ite, eE_mth, eE_chain, eE_sl, intP, slT, eA_cons, eA_nil, eT_nm, eT_tup, eT_cons, eT_nil, go_ok, go_exc, go_stuck, gv0, gvS, List.set_cons_zero, List.set_cons_succ, b_add, b_sub, b_mul, b_fdiv, b_mod, b_neg, b_abs, b_lt, b_le, b_gt, b_ge, b_eqI, b_neI, b_max, b_min, asBool_bl, mkTup1, mkTup2, b_idx, ix0, ix1, Bool.false_eq_true, reduceIte, b_isinst, b_len, b_all, b_any, b_tuple, b_list, b_append, b_pop, b_rev, b_int, b_isN, b_isNN, eT_sub, mkL_in, mkL_new, Bool.not_true, Bool.not_false, it_two, it_three, lenL, lenTu, mkLst_nil, mkTup3, isTL, isTT, go_assoc, hs] <;> rfl) (wp_skip ⟨rfl, ?_, x0, some (encR q), ?_⟩))
    · rw [ht, rsum_snoc, Nat.add_mul, Nat.one_mul]
      exact ov_add ho hm
    · rw [ht, rsum_snoc]; rfl
  · rintro ρ st' ⟨rfl, _, x0, x2, rfl⟩
    rw [List.length_map, List.take_length]
    exact ⟨_, _, rfl, rfl⟩
  · obtain ⟨x0, x2, rfl, rfl⟩ := h
    exact wp_seq (wp_ret (st' := st') (by simp only [eS_seq, eS_skip, eS_ret, eS_ex, eS_asg, eS_ite, eS_raise, eE_call, eE_bi, eE_var, eE_cst, eE_glo, eE_fnv, eE_tup, eE_lst, eE_and, eE_or, eE_not, eE_ite, eE_mth, eE_chain, eE_sl, intP, slT, eA_cons, eA_nil, eT_nm, eT_tup, eT_cons, eT_nil, go_ok, go_exc, go_stuck, gv0, gvS, List.set_cons_zero, List.set_cons_succ, b_add, b_sub, b_mul, b_fdiv, b_mod, b_neg, b_abs, b_lt, b_le, b_gt, b_ge, b_eqI, b_neI, b_max, b_min, asBool_bl, mkTup1, mkTup2, b_idx, ix0, ix1, Bool.false_eq_true, reduceIte, b_isinst, b_len, b_all, b_any, b_tuple, b_list, b_append, b_pop, b_rev, b_int, b_isN, b_isNN, eT_sub, mkL_in, mkL_new, Bool.not_true, Bool.not_false, it_two, it_three, lenL, lenTu, mkLst_nil, mkTup3, isTL, isTT, go_assoc] <;> rfl) ⟨_, rfl, leave_wp0 rfl rfl ⟨rfl, rfl⟩⟩)
end K82
namespace K82
open PySem PC
/-- a solution, or multiples that show that there is none -/
def SolOk (many w B : Nat) (v : Nat → Nat → Rat) (d : D) : Prop :=
  (∃ y, d = .tup [.tup (fr w y), .non] ∧ y w = -1 ∧ Cd ((2 * (w + 1) * B) ^ w) ((2 * (w + 1) * B) ^ w) w y ∧ ∀ i, i < many → ev w (v i) y = 0) ∨
  (∃ l, d = .tup [.non, .tup (fr many l)] ∧ Cd ((w + 1) * ((2 * (w + 1) * B) ^ w * B)) ((w + 1) * ((2 * (w + 1) * B) ^ w * B)) many l ∧ (∀ c, c < w → sumR many (fun k => l k * v k c) = 0) ∧ sumR many (fun k => l k * v k w) ≠ 0)
theorem ev_vx {w i : Nat} {v : Nat → Nat → Rat} {y : Nat → Rat} : ev w (vx w v i) y = ev w (v i) y := sumR_ext _ fun c hc => by unfold vx; rw [if_pos (by omega)]
/-- the multiples tell the row -/
theorem lin_red {many w j i : Nat} {v : Nat → Nat → Rat} {idx piv : Nat → Nat} {u : Nat → Rat} (hi : i < many) (hx : ∀ s, s < j → idx s < many) (hr : Red (vx w v) j idx piv i u) {c : Nat} (hc : c ≤ w) : sumR many (fun k => u (w + 1 + k) * v k c) = u c := by
  obtain ⟨d, hd, _⟩ := hr
  have one : ∀ i, i < many → sumR many (fun k => vx w v i (w + 1 + k) * v k c) = vx w v i c := fun i hi => by
    rw [sumR_one many i _ hi (fun k hk hne => by unfold vx; rw [if_neg (by omega), if_neg (by omega)]; grind)]
    unfold vx
    rw [if_neg (by omega), if_pos rfl, if_pos hc]
    grind
  have h1 : sumR many (fun k => u (w + 1 + k) * v k c) = sumR many (fun k => vx w v i (w + 1 + k) * v k c) + sumR many (fun k => sumR j (fun t => d t * (vx w v (idx t) (w + 1 + k) * v k c))) := by
    rw [← sumR_add]
    refine sumR_ext many fun k _ => ?_
    rw [hd, show sumR j (fun t => d t * (vx w v (idx t) (w + 1 + k) * v k c)) = sumR j (fun t => v k c * (d t * vx w v (idx t) (w + 1 + k))) from sumR_ext j fun t _ => by grind, sumR_mul]
    grind
  rw [h1, one i hi, sumR_comm, hd c]
  rw [sumR_ext j (f := fun t => sumR many (fun k => d t * (vx w v (idx t) (w + 1 + k) * v k c))) (g := fun t => d t * vx w v (idx t) c) (fun t ht => by rw [sumR_mul, one (idx t) (hx t ht)])]
theorem filter_nil {w : Nat} {u : Nat → Rat} (h : (List.range w).filter (fun c => !decide (u c = 0)) = []) : ∀ c, c < w → u c = 0 := fun c hc => by
  by_cases e : u c = 0
  · exact e
  · have : c ∈ (List.range w).filter (fun c => !decide (u c = 0)) := List.mem_filter.mpr ⟨List.mem_range.mpr hc, by simpa using e⟩
    rw [h] at this
    cases this
theorem filter_cons {w a : Nat} {r : List Nat} {u : Nat → Rat} (h : (List.range w).filter (fun c => !decide (u c = 0)) = a :: r) : a < w ∧ u a ≠ 0 := by
  have : a ∈ (List.range w).filter (fun c => !decide (u c = 0)) := by rw [h]; exact List.mem_cons_self
  rw [List.mem_filter] at this
  exact ⟨List.mem_range.mp this.1, by simpa using this.2⟩
theorem kcell_put {C j a : Nat} {piv : Nat → Nat} {K : Nat → Nat → Rat} {x : Nat → Rat} : kcell C (j + 1) (put piv j a) (fun s => if s = j then x else K s) = kcell C j piv K ++ [.tup [.int (a : Nat), .lst (fr C x)]] := by
  unfold kcell
  rw [List.range_succ, List.map_append, List.map_singleton]
  congr 1
  · refine List.map_congr_left fun s hs => ?_
    have := List.mem_range.mp hs
    unfold encK
    rw [put_lt this]
    dsimp only
    rw [if_neg (by omega)]
  · unfold encK
    rw [put_eq]
    dsimp only
    rw [if_pos rfl]
section
variable {k many w B : Nat} {v : Nat → Nat → Rat} {A : Nat → Nat → Int} {R : Int} {st : Store}
/-- the first loop -/
theorem solved_outer (hR : R ≠ 0) (hB : 1 ≤ B) (hRB : R.natAbs ≤ B)
    (hv : ∀ i c, i < many → c < w + 1 → v i c = (A i c : Rat) / (R : Rat)) (hA : ∀ i c, i < many → c < w + 1 → (A i c).natAbs ≤ B) (hβ : (w + 1) * ((2 * (w + 1) * B) ^ w * B) < 2 ^ 1000) (hm2 : many ≤ 40) (hw : w ≤ 20) {Q : Fl → Store → Prop}
    (hQ1 : ∀ j idx piv K a5 a6 a7 a8 a9 a10, Kept (vx w v) w many j idx piv K → Q (.nx [some (.lst ((List.range many).map fun i => .tup (fr w (v i)))), some (.lst ((List.range many).map fun i => encR (v i w))), some (.int many), some (.int w), some (.ref st.length), a5, a6, a7, a8, a9, a10, none, none, none, none, none]) (st ++ [.lst (kcell (w + 1 + many) j piv K)]))
    (hQ2 : ∀ d c, SolOk many w B v d → below 0 d = true → sz d ≤ 1000000 → Q (.rt d) (st ++ [c])) :
    Wp (evS (callF tbl (k + 5)) (.for_ (.nm 5) (.rg1 (.var 2)) (.seq (.asg (.nm 6) (.bi (.add false) (.cons (.bi (.add false) (.cons (.bi (.list false) (.cons (.bi .idx (.cons (.var 0) (.cons (.var 5) .nil))) .nil)) (.cons (.lst false (.cons (.bi .idx (.cons (.var 1) (.cons (.var 5) .nil))) .nil)) .nil))) (.cons (.comp false (.tup (.cons (.bi .int (.cons (.bi .eq (.cons (.var 13) (.cons (.var 5) .nil))) .nil)) (.cons (.cst (.int 1)) .nil))) [13] true (.rg1 (.var 2)) (.cst (.bl true))) .nil)))) (.seq (.for_ (.tup (.cons (.nm 7) (.cons (.nm 8) .nil))) (.sq (.var 4)) (.seq (.ite (.bi .ne (.cons (.bi .idx (.cons (.bi .idx (.cons (.var 6) (.cons (.var 7) .nil))) (.cons (.cst (.int 0)) .nil))) (.cons (.cst (.int 0)) .nil))) (.seq (.asg (.nm 9) (.bi .idx (.cons (.var 6) (.cons (.var 7) .nil)))) (.seq (.asg (.nm 6) (.comp false (.call 5 (.cons (.var 14) (.cons (.call 6 (.cons (.var 9) (.cons (.var 15) .nil))) .nil))) [14, 15] false (.zip (.var 6) (.var 8)) (.cst (.bl true)))) .skip)) .skip) .skip)) (.seq (.asg (.nm 10) (.comp false (.var 13) [13] true (.rg1 (.var 3)) (.bi .ne (.cons (.bi .idx (.cons (.bi .idx (.cons (.var 6) (.cons (.var 13) .nil))) (.cons (.cst (.int 0)) .nil))) (.cons (.cst (.int 0)) .nil))))) (.seq (.ite (.bi .gt (.cons (.bi .len (.cons (.var 10) .nil)) (.cons (.cst (.int 0)) .nil))) (.seq (.asg (.nm 9) (.bi .idx (.cons (.var 6) (.cons (.bi .idx (.cons (.var 10) (.cons (.cst (.int 0)) .nil))) .nil)))) (.seq (.ex (.mth .append (.var 4) (.cons (.tup (.cons (.bi .idx (.cons (.var 10) (.cons (.cst (.int 0)) .nil))) (.cons (.comp false (.call 7 (.cons (.var 14) (.cons (.var 9) .nil))) [14] true (.sq (.var 6)) (.cst (.bl true))) .nil))) .nil))) .skip)) (.seq (.ite (.bi .ne (.cons (.bi .idx (.cons (.bi .idx (.cons (.var 6) (.cons (.var 3) .nil))) (.cons (.cst (.int 0)) .nil))) (.cons (.cst (.int 0)) .nil))) (.seq (.ret (.tup (.cons (.cst .non) (.cons (.bi .tuple (.cons (.sl false true false (.var 6) (.bi (.add false) (.cons (.var 3) (.cons (.cst (.int 1)) .nil))) .nil) .nil)) .nil)))) .skip) .skip) .skip)) .skip)))))
      [some (.lst ((List.range many).map fun i => .tup (fr w (v i)))), some (.lst ((List.range many).map fun i => encR (v i w))), some (.int many), some (.int w), some (.ref st.length), none, none, none, none, none, none, none, none, none, none, none] (st ++ [.lst []])) Q := by
  refine wp_range (n := many) (g := fun i => (i : Int)) (src_rg1 (i := many) rfl rfl (by omega)) (fun i ρ st' => ∃ j idx piv K, st' = st ++ [.lst (kcell (w + 1 + many) j piv K)] ∧ Kept (vx w v) w i j idx piv K ∧ ∃ a5 a6 a7 a8 a9 a10, ρ = [some (.lst ((List.range many).map fun i => .tup (fr w (v i)))), some (.lst ((List.range many).map fun i => encR (v i w))), some (.int many), some (.int w), some (.ref st.length), a5, a6, a7, a8, a9, a10, none, none, none, none, none]) ?_ ?_ ?_
  · exact ⟨0, fun _ => 0, fun _ => 0, fun _ _ => 0, rfl, kept_zero, none, none, none, none, none, none, rfl⟩
  · rintro i hi ρ st' ⟨j, idx, piv, K, rfl, hK, a5, a6, a7, a8, a9, a10, rfl⟩
    have i0 : ∀ st', idxV (.lst ((List.range many).map fun i => D.tup (fr w (v i)))) (.int (i : Nat)) st' = .ok (.tup (fr w (v i))) st' := fun st' => ix_lst (get_range hi)
    have i1 : ∀ st', idxV (.lst ((List.range many).map fun i => encR (v i w))) (.int (i : Nat)) st' = .ok (encR (v i w)) st' := fun st' => ix_lst (get_range hi)
    have l0 : ∀ st', listV false (.tup (fr w (v i))) st' = .ok (.lst (fr w (v i))) st' := fun st' => rfl
    have ad1 : ∀ st', biV (.add false) [.lst (fr w (v i)), .lst [encR (v i w)]] st' = .ok (.lst (fr w (v i) ++ [encR (v i w)])) st' := fun st' => addLL (by rw [fr_len]; simp only [List.length_cons, List.length_nil]; omega)
    have ad2 : ∀ st', biV (.add false) [.lst (fr w (v i) ++ [encR (v i w)]), .lst ((List.range many).map fun k : Nat => D.tup [.int (if ((k : Int) == (i : Int)) then 1 else 0), .int 1])] st' = .ok (.lst (fr (w + 1 + many) (vx w v i))) st' := fun st' => by
      rw [addLL (by rw [List.length_append, fr_len, List.length_map, List.length_range]; simp only [List.length_cons, List.length_nil]; omega), own_start hi]
    have mk1 : ∀ (x : D) st', mkLst false [x] st' = .ok (.lst [x]) st' := fun _ _ => rfl
    simp only [List.set_cons_zero, List.set_cons_succ]
    refine wp_seq (wp_asgP (d := .lst (fr (w + 1 + many) (vx w v i))) (Wp.eq ?_) ?_)
    · simp only [eS_seq, eS_skip, eS_ret, eS_ex, eS_asg, eS_ite, eS_raise, eE_call, eE_bi, eE_var, eE_cst, eE_glo, eE_fnv, eE_tup, eE_lst, eE_and, eE_or, eE_not, eE_ite, eE_mth, eE_chain, eE_sl, intP, slT, eA_cons, eA_nil, eT_nm, eT_tup, eT_cons, eT_nil, go_ok, go_exc, go_stuck, gv0, gvS, List.set_cons_zero, List.set_cons_succ, b_add, b_sub, b_mul, b_fdiv, b_mod, b_neg, b_abs, b_lt, b_le, b_gt, b_ge, b_eqI, b_neI, b_max, b_min, asBool_bl, mkTup1, mkTup2, b_idx, ix0, ix1, Bool.false_eq_true, reduceIte, b_isinst, b_len, b_all, b_any, b_tuple, b_list, b_append, b_pop, b_rev, b_int, b_isN, b_isNN, eT_sub, mkL_in, mkL_new, Bool.not_true, Bool.not_false, it_two, it_three, lenL, lenTu, mkLst_nil, mkTup3, isTL, isTT, go_assoc, i0, i1, l0, mk1]
      refine Wp.on (ad1 _) ?_
      refine Wp.on (comp_range (n := many) (g := fun i => (i : Int)) (r := fun k : Nat => D.tup [.int (if ((k : Int) == (i : Int)) then 1 else 0), .int 1]) (src_rg1 (i := many) rfl rfl (by omega)) (fun c hc => (by simp only [eS_seq, eS_skip, eS_ret, eS_ex, eS_asg, eS_ite, eS_raise, eE_call, eE_bi, eE_var, eE_cst, eE_glo, eE_fnv, eE_tup, eE_lst, eE_and, eE_or, eE_not, eE_ite, eE_mth, eE_chain, eE_sl, intP, slT, eA_cons, eA_nil, eT_nm, eT_tup, eT_cons, eT_nil, go_ok, go_exc, go_stuck, gv0, gvS, List.set_cons_zero, List.set_cons_succ, b_add, b_sub, b_mul, b_fdiv, b_mod, b_neg, b_abs, b_lt, b_le, b_gt, b_ge, b_eqI, b_neI, b_max, b_min, asBool_bl, mkTup1, mkTup2, b_idx, ix0, ix1, Bool.false_eq_true, reduceIte, b_isinst, b_len, b_all, b_any, b_tuple, b_list, b_append, b_pop, b_rev, b_int, b_isN, b_isNN, eT_sub, mkL_in, mkL_new, Bool.not_true, Bool.not_false, it_two, it_three, lenL, lenTu, mkLst_nil, mkTup3, isTL, isTT, go_assoc, b_intB] <;> rfl)) (by omega)) ?_
      exact Wp.of (ad2 _) ⟨rfl, rfl⟩
    refine wp_seq ((solved_inner hR hB hRB hv hA hβ hm2 hw hi hK).mono ?_)
    rintro f st' ⟨rfl, u, b7, b8, b9, hr, rfl⟩
    have hix : ∀ c, c < w + 1 + many → ∀ st', idxV (.lst (fr (w + 1 + many) u)) (.int (c : Nat)) st' = .ok (encR (u c)) st' := fun c hc st' => ix_lst (fr_get hc)
    have hlow : ∀ c st', biV .ne [.int (u c).num, .int 0] st' = .ok (.bl (!decide (u c = 0))) st' := fun c st' => by rw [b_neI, enc_num0]
    have hix0 : ∀ (x y : D) st', idxV (.tup [x, y]) (.int 0) st' = .ok x st' := fun _ _ _ => ix0
    have hcd := hK.small hR hB (vx_ax hR hv) (ax_le hA hRB) hRB (by omega) (by omega) (Nat.le_refl j) hi hr
    have hszu : ∀ c, c < w + 1 + many → Sz (u c) 1000 := fun c hc => hcd.sz hc hβ hβ
    refine wp_seq (wp_asgP (d := .lst (((List.range w).filter (fun c => !decide (u c = 0))).map fun c : Nat => D.int c)) ?_ ?_)
    · refine comp_test (zs := List.range w) (e := fun c : Nat => D.int c) (r := fun c : Nat => D.int c) (p := fun c => !decide (u c = 0)) (src_rg1 (i := w) rfl rfl (by omega)) (fun c hc => ?_) (fun c hc _ => (by simp only [eS_seq, eS_skip, eS_ret, eS_ex, eS_asg, eS_ite, eS_raise, eE_call, eE_bi, eE_var, eE_cst, eE_glo, eE_fnv, eE_tup, eE_lst, eE_and, eE_or, eE_not, eE_ite, eE_mth, eE_chain, eE_sl, intP, slT, eA_cons, eA_nil, eT_nm, eT_tup, eT_cons, eT_nil, go_ok, go_exc, go_stuck, gv0, gvS, List.set_cons_zero, List.set_cons_succ, b_add, b_sub, b_mul, b_fdiv, b_mod, b_neg, b_abs, b_lt, b_le, b_gt, b_ge, b_eqI, b_neI, b_max, b_min, asBool_bl, mkTup1, mkTup2, b_idx, ix0, ix1, Bool.false_eq_true, reduceIte, b_isinst, b_len, b_all, b_any, b_tuple, b_list, b_append, b_pop, b_rev, b_int, b_isN, b_isNN, eT_sub, mkL_in, mkL_new, Bool.not_true, Bool.not_false, it_two, it_three, lenL, lenTu, mkLst_nil, mkTup3, isTL, isTT, go_assoc] <;> rfl)) (by rw [List.length_range]; omega)
      have hc := List.mem_range.mp hc
      simp only [eS_seq, eS_skip, eS_ret, eS_ex, eS_asg, eS_ite, eS_raise, eE_call, eE_bi, eE_var, eE_cst, eE_glo, eE_fnv, eE_tup, eE_lst, eE_and, eE_or, eE_not, eE_ite, eE_mth, eE_chain, eE_sl, intP, slT, eA_cons, eA_nil, eT_nm, eT_tup, eT_cons, eT_nil, go_ok, go_exc, go_stuck, gv0, gvS, List.set_cons_zero, List.set_cons_succ, b_add, b_sub, b_mul, b_fdiv, b_mod, b_neg, b_abs, b_lt, b_le, b_gt, b_ge, b_eqI, b_neI, b_max, b_min, asBool_bl, mkTup1, mkTup2, b_idx, ix0, ix1, Bool.false_eq_true, reduceIte, b_isinst, b_len, b_all, b_any, b_tuple, b_list, b_append, b_pop, b_rev, b_int, b_isN, b_isNN, eT_sub, mkL_in, mkL_new, Bool.not_true, Bool.not_false, it_two, it_three, lenL, lenTu, mkLst_nil, mkTup3, isTL, isTT, go_assoc, hix c (by omega), hix0, hlow, encR]
    · rcases hh : (List.range w).filter (fun c => !decide (u c = 0)) with _ | ⟨a, rest⟩
      · have h0 := filter_nil hh
        refine wp_seq (wp_iteF (by simp only [eS_seq, eS_skip, eS_ret, eS_ex, eS_asg, eS_ite, eS_raise, eE_call, eE_bi, eE_var, eE_cst, eE_glo, eE_fnv, eE_tup, eE_lst, eE_and, eE_or, eE_not, eE_ite, eE_mth, eE_chain, eE_sl, intP, slT, eA_cons, eA_nil, eT_nm, eT_tup, eT_cons, eT_nil, go_ok, go_exc, go_stuck, gv0, gvS, List.set_cons_zero, List.set_cons_succ, b_add, b_sub, b_mul, b_fdiv, b_mod, b_neg, b_abs, b_lt, b_le, b_gt, b_ge, b_eqI, b_neI, b_max, b_min, asBool_bl, mkTup1, mkTup2, b_idx, ix0, ix1, Bool.false_eq_true, reduceIte, b_isinst, b_len, b_all, b_any, b_tuple, b_list, b_append, b_pop, b_rev, b_int, b_isN, b_isNN, eT_sub, mkL_in, mkL_new, Bool.not_true, Bool.not_false, it_two, it_three, lenL, lenTu, mkLst_nil, mkTup3, isTL, isTT, go_assoc] <;> rfl) ?_)
        have hiw : ∀ st', idxV (.lst (fr (w + 1 + many) u)) (.int (w : Nat)) st' = .ok (encR (u w)) st' := hix w (by omega)
        refine wp_seq (wp_iteB (x := !decide (u w = 0)) (by simp only [eS_seq, eS_skip, eS_ret, eS_ex, eS_asg, eS_ite, eS_raise, eE_call, eE_bi, eE_var, eE_cst, eE_glo, eE_fnv, eE_tup, eE_lst, eE_and, eE_or, eE_not, eE_ite, eE_mth, eE_chain, eE_sl, intP, slT, eA_cons, eA_nil, eT_nm, eT_tup, eT_cons, eT_nil, go_ok, go_exc, go_stuck, gv0, gvS, List.set_cons_zero, List.set_cons_succ, b_add, b_sub, b_mul, b_fdiv, b_mod, b_neg, b_abs, b_lt, b_le, b_gt, b_ge, b_eqI, b_neI, b_max, b_min, asBool_bl, mkTup1, mkTup2, b_idx, ix0, ix1, Bool.false_eq_true, reduceIte, b_isinst, b_len, b_all, b_any, b_tuple, b_list, b_append, b_pop, b_rev, b_int, b_isN, b_isNN, eT_sub, mkL_in, mkL_new, Bool.not_true, Bool.not_false, it_two, it_three, lenL, lenTu, mkLst_nil, mkTup3, isTL, isTT, go_assoc, hiw, hix0, hlow, encR] <;> rfl) (fun hx => ?_) (fun hx => ?_))
        · have hx : u w ≠ 0 := by simpa using hx
          have hcut : cut (fr (w + 1 + many) u) (some ((w : Int) + 1)) none = fr many (fun k => u (w + 1 + k)) := by
            rw [cut_from (i := w + 1) (by omega), fr_add, List.drop_left' fr_len]
          have tu : ∀ st', tupleV (.lst (fr many (fun k => u (w + 1 + k)))) st' = .ok (.tup (fr many (fun k => u (w + 1 + k)))) st' := fun _ => rfl
          refine wp_seq (wp_ret (d := .tup [.non, .tup (fr many (fun k => u (w + 1 + k)))]) (st' := st ++ [.lst (kcell (w + 1 + many) j piv K)]) (by simp only [eS_seq, eS_skip, eS_ret, eS_ex, eS_asg, eS_ite, eS_raise, eE_call, eE_bi, eE_var, eE_cst, eE_glo, eE_fnv, eE_tup, eE_lst, eE_and, eE_or, eE_not, eE_ite, eE_mth, eE_chain, eE_sl, intP, slT, eA_cons, eA_nil, eT_nm, eT_tup, eT_cons, eT_nil, go_ok, go_exc, go_stuck, gv0, gvS, List.set_cons_zero, List.set_cons_succ, b_add, b_sub, b_mul, b_fdiv, b_mod, b_neg, b_abs, b_lt, b_le, b_gt, b_ge, b_eqI, b_neI, b_max, b_min, asBool_bl, mkTup1, mkTup2, b_idx, ix0, ix1, Bool.false_eq_true, reduceIte, b_isinst, b_len, b_all, b_any, b_tuple, b_list, b_append, b_pop, b_rev, b_int, b_isN, b_isNN, eT_sub, mkL_in, mkL_new, Bool.not_true, Bool.not_false, it_two, it_three, lenL, lenTu, mkLst_nil, mkTup3, isTL, isTT, go_assoc, eE_slTF, slL, hcut, tu] <;> rfl) ?_)
          refine hQ2 _ _ (Or.inr ⟨fun k => u (w + 1 + k), rfl, ?_, fun c hc => ?_, ?_⟩) ?_ ?_
          · obtain ⟨z, h1, h2, h3⟩ := hcd
            exact ⟨z, h1, h2, fun c hc => h3 (w + 1 + c) (by omega)⟩
          · rw [lin_red hi (fun s hs => by have := hK.ix s hs; omega) hr (by omega)]
            exact h0 c hc
          · rw [lin_red hi (fun s hs => by have := hK.ix s hs; omega) hr (by omega)]
            exact hx
          · show (true && (belows 0 (fr many _) && true)) = true
            rw [fr_below]; rfl
          · have : szs (fr many (fun k => u (w + 1 + k))) ≤ many * 6 := fr_sz
            simp only [sz, szs]
            omega
        · have hx : u w = 0 := by simpa using hx
          refine wp_skip (wp_skip (wp_skip ⟨j, idx, piv, K, rfl, hK.skip hr fun c hc => ?_, _, _, _, _, _, _, rfl⟩))
          by_cases e : c = w
          · rw [e]; exact hx
          · exact h0 c (by omega)
      · obtain ⟨haw, ha⟩ := filter_cons hh
        have hia : ∀ st', idxV (.lst (fr (w + 1 + many) u)) (.int (a : Nat)) st' = .ok (encR (u a)) st' := hix a (by omega)
        have hih : ∀ (xs : List D) st', idxV (.lst (D.int (a : Nat) :: xs)) (.int 0) st' = .ok (.int (a : Nat)) st' := fun xs st' => ix_lst (i := 0) rfl
        have hgt : decide ((0 : Int) < (((a :: rest).map fun c : Nat => D.int c).length : Int)) = true := by simp
        refine wp_seq (wp_iteT (by simp only [eS_seq, eS_skip, eS_ret, eS_ex, eS_asg, eS_ite, eS_raise, eE_call, eE_bi, eE_var, eE_cst, eE_glo, eE_fnv, eE_tup, eE_lst, eE_and, eE_or, eE_not, eE_ite, eE_mth, eE_chain, eE_sl, intP, slT, eA_cons, eA_nil, eT_nm, eT_tup, eT_cons, eT_nil, go_ok, go_exc, go_stuck, gv0, gvS, List.set_cons_zero, List.set_cons_succ, b_add, b_sub, b_mul, b_fdiv, b_mod, b_neg, b_abs, b_lt, b_le, b_gt, b_ge, b_eqI, b_neI, b_max, b_min, asBool_bl, mkTup1, mkTup2, b_idx, ix0, ix1, Bool.false_eq_true, reduceIte, b_isinst, b_len, b_all, b_any, b_tuple, b_list, b_append, b_pop, b_rev, b_int, b_isN, b_isNN, eT_sub, mkL_in, mkL_new, Bool.not_true, Bool.not_false, it_two, it_three, lenL, lenTu, mkLst_nil, mkTup3, isTL, isTT, go_assoc, hgt] <;> rfl) ?_)
        refine wp_seq (wp_asgP (d := encR (u a)) (by simp only [eS_seq, eS_skip, eS_ret, eS_ex, eS_asg, eS_ite, eS_raise, eE_call, eE_bi, eE_var, eE_cst, eE_glo, eE_fnv, eE_tup, eE_lst, eE_and, eE_or, eE_not, eE_ite, eE_mth, eE_chain, eE_sl, intP, slT, eA_cons, eA_nil, eT_nm, eT_tup, eT_cons, eT_nil, go_ok, go_exc, go_stuck, gv0, gvS, List.set_cons_zero, List.set_cons_succ, b_add, b_sub, b_mul, b_fdiv, b_mod, b_neg, b_abs, b_lt, b_le, b_gt, b_ge, b_eqI, b_neI, b_max, b_min, asBool_bl, mkTup1, mkTup2, b_idx, ix0, ix1, Bool.false_eq_true, reduceIte, b_isinst, b_len, b_all, b_any, b_tuple, b_list, b_append, b_pop, b_rev, b_int, b_isN, b_isNN, eT_sub, mkL_in, mkL_new, Bool.not_true, Bool.not_false, it_two, it_three, lenL, lenTu, mkLst_nil, mkTup3, isTL, isTT, go_assoc, List.map_cons, hih, hia] <;> rfl) ?_)
        refine wp_seq (wp_ex (d := .non) (st' := st ++ [.lst (kcell (w + 1 + many) (j + 1) (put piv j a) (fun s => if s = j then fun c => u c / u a else K s))]) (Wp.eq ?_) ?_)
        · have hil : isLst (.ref st.length) (st ++ [.lst (kcell (w + 1 + many) j piv K)]) = .ok () (st ++ [.lst (kcell (w + 1 + many) j piv K)]) := isLst_ref get_last
          simp only [eS_seq, eS_skip, eS_ret, eS_ex, eS_asg, eS_ite, eS_raise, eE_call, eE_bi, eE_var, eE_cst, eE_glo, eE_fnv, eE_tup, eE_lst, eE_and, eE_or, eE_not, eE_ite, eE_mth, eE_chain, eE_sl, intP, slT, eA_cons, eA_nil, eT_nm, eT_tup, eT_cons, eT_nil, go_ok, go_exc, go_stuck, gv0, gvS, List.set_cons_zero, List.set_cons_succ, b_add, b_sub, b_mul, b_fdiv, b_mod, b_neg, b_abs, b_lt, b_le, b_gt, b_ge, b_eqI, b_neI, b_max, b_min, asBool_bl, mkTup1, mkTup2, b_idx, ix0, ix1, Bool.false_eq_true, reduceIte, b_isinst, b_len, b_all, b_any, b_tuple, b_list, b_append, b_pop, b_rev, b_int, b_isN, b_isNN, eT_sub, mkL_in, mkL_new, Bool.not_true, Bool.not_false, it_two, it_three, lenL, lenTu, mkLst_nil, mkTup3, isTL, isTT, go_assoc, List.map_cons, hih, hil]
          refine Wp.on (comp_pure (zs := List.range (w + 1 + many)) (e := fun c => encR (u c)) (r := fun c => encR (u c / u a)) rfl (fun c hc => ?_) (by rw [List.length_range]; omega)) ?_
          · have hc := List.mem_range.mp hc
            have h1 := fun st' => over_sz (k := k + 2) (st := st') (hszu c hc) (hszu a (by omega)) ha (by omega)
            simp only [eS_seq, eS_skip, eS_ret, eS_ex, eS_asg, eS_ite, eS_raise, eE_call, eE_bi, eE_var, eE_cst, eE_glo, eE_fnv, eE_tup, eE_lst, eE_and, eE_or, eE_not, eE_ite, eE_mth, eE_chain, eE_sl, intP, slT, eA_cons, eA_nil, eT_nm, eT_tup, eT_cons, eT_nil, go_ok, go_exc, go_stuck, gv0, gvS, List.set_cons_zero, List.set_cons_succ, b_add, b_sub, b_mul, b_fdiv, b_mod, b_neg, b_abs, b_lt, b_le, b_gt, b_ge, b_eqI, b_neI, b_max, b_min, asBool_bl, mkTup1, mkTup2, b_idx, ix0, ix1, Bool.false_eq_true, reduceIte, b_isinst, b_len, b_all, b_any, b_tuple, b_list, b_append, b_pop, b_rev, b_int, b_isN, b_isNN, eT_sub, mkL_in, mkL_new, Bool.not_true, Bool.not_false, it_two, it_three, lenL, lenTu, mkLst_nil, mkTup3, isTL, isTT, go_assoc, h1]
          · have hap := append_ref (x := .tup [.int (a : Nat), .lst (fr (w + 1 + many) (fun c => u c / u a))]) (get_last (st := st) (c := .lst (kcell (w + 1 + many) j piv K))) (by
              have := hK.le
              unfold kcell
              rw [List.length_map, List.length_range]
              omega)
            rw [set_last, ← kcell_put (K := K) (piv := piv)] at hap
            exact Wp.of hap ⟨rfl, rfl⟩
        · exact wp_skip (wp_skip ⟨j + 1, _, _, _, rfl, hK.put hr haw ha, _, _, _, _, _, _, rfl⟩)
  · rintro ρ st' ⟨j, idx, piv, K, rfl, hK, a5, a6, a7, a8, a9, a10, rfl⟩
    exact hQ1 j idx piv K _ _ _ _ _ _ hK
end
end K82
namespace K82
open PySem PC
theorem dist_of_tri {w j : Nat} {piv : Nat → Nat} {K : Nat → Nat → Rat} (h : Tri w j piv K) : ∀ t t', t < j → t' < t → piv t' ≠ piv t := fun _ _ ht ht' => tri_ne h ht ht'
section
variable {k many w B j : Nat} {v : Nat → Nat → Rat} {A : Nat → Nat → Int} {R : Int} {st : Store} {idx piv : Nat → Nat} {K : Nat → Nat → Rat} {y : Nat → Rat}
/-- the solution as far as it is known -/
def Part (w j m : Nat) (piv : Nat → Nat) (y f : Nat → Rat) : Prop := (∀ t, j - m ≤ t → t < j → f (piv t) = y (piv t)) ∧ ∀ c, c < w → (∀ t, j - m ≤ t → t < j → piv t ≠ c) → f c = 0
theorem part_or {m : Nat} {f : Nat → Rat} (h : Part w j m piv y f) {c : Nat} (hc : c < w) : f c = y c ∨ f c = 0 := by
  by_cases e : ∃ t, j - m ≤ t ∧ t < j ∧ piv t = c
  · obtain ⟨t, a, b, rfl⟩ := e
    exact .inl (h.1 t a b)
  · exact .inr (h.2 c hc fun t a b q => e ⟨t, a, b, q⟩)
theorem part_sum (hT : Tri w j piv K) (hS : Sup w 0 j piv y) {m : Nat} (hm : m < j) {f : Nat → Rat} (h : Part w j m piv y f) (h0 : ev w (K (j - 1 - m)) y = 0) :
    K (j - 1 - m) w - sumR w (fun c => if decide (c ≠ piv (j - 1 - m)) then K (j - 1 - m) c * f c else 0) = y (piv (j - 1 - m)) := by
  obtain ⟨hp, h1, hz⟩ := hT (j - 1 - m) (by omega)
  have e1 : sumR w (fun c => K (j - 1 - m) c * y c) = sumR w (fun c => if decide (c ≠ piv (j - 1 - m)) then K (j - 1 - m) c * f c else 0) + sumR w (fun c => if c = piv (j - 1 - m) then y c else 0) := by
    rw [← sumR_add]
    refine sumR_ext w fun c hc => ?_
    by_cases e : c = piv (j - 1 - m)
    · subst e
      rw [if_neg (by simp), if_pos rfl, h1]
      grind
    · rw [if_pos (by simpa using e), if_neg e]
      by_cases e2 : y c = 0
      · by_cases e3 : f c = 0
        · rw [e2, e3]; grind
        · rcases part_or h hc with q | q
          · rw [q, e2]; grind
          · exact absurd q e3
      · obtain ⟨t, _, ht, rfl⟩ := hS.2 c hc e2
        by_cases e3 : t < j - 1 - m
        · rw [hz t e3]; grind
        · by_cases e4 : t = j - 1 - m
          · exact absurd (by rw [e4]) e
          · rw [h.1 t (by omega) ht]; grind
  have e2 : sumR w (fun c => if c = piv (j - 1 - m) then y c else 0) = y (piv (j - 1 - m)) := by
    rw [sumR_one w (piv (j - 1 - m)) _ hp (fun c _ hc => if_neg hc), if_pos rfl]
  unfold ev at h0
  rw [sumR_succ, hS.1, e1, e2] at h0
  grind
theorem part_put (hT : Tri w j piv K) {m : Nat} (hm : m < j) {f : Nat → Rat} (h : Part w j m piv y f) : Part w j (m + 1) piv y (fun c => if c = piv (j - 1 - m) then y (piv (j - 1 - m)) else f c) := by
  refine ⟨fun t a b => ?_, fun c hc hn => ?_⟩
  · dsimp only
    by_cases e : piv t = piv (j - 1 - m)
    · rw [if_pos e, e]
    · rw [if_neg e]
      have : t ≠ j - 1 - m := fun q => e (by rw [q])
      exact h.1 t (by omega) b
  · dsimp only
    rw [if_neg (fun q => hn (j - 1 - m) (by omega) (by omega) q.symm)]
    exact h.2 c hc fun t a b => hn t (by omega) b
theorem fr_set {C p : Nat} {f : Nat → Rat} {x : Rat} (hp : p < C) : (fr C f).set p (encR x) = fr C (fun c => if c = p then x else f c) := by
  refine List.ext_getElem? fun c => ?_
  rw [List.getElem?_set, fr_len]
  by_cases e : p = c
  · subst e
    rw [if_pos rfl, if_pos hp, fr_get hp, if_pos rfl]
  · rw [if_neg e]
    by_cases hc : c < C
    · rw [fr_get hc, fr_get hc, if_neg (fun q => e q.symm)]
    · have h1 : (fr C f).length ≤ c := by rw [fr_len]; omega
      have h2 : (fr C (fun c => if c = p then x else f c)).length ≤ c := by rw [fr_len]; omega
      rw [List.getElem?_eq_none h1, List.getElem?_eq_none h2]
theorem repl_fr {w : Nat} : List.replicate w (D.tup [.int 0, .int 1]) = fr w (fun _ => 0) := by
  refine List.ext_getElem? fun c => ?_
  by_cases hc : c < w
  · rw [fr_get hc, List.getElem?_replicate, if_pos hc]; rfl
  · rw [List.getElem?_eq_none (by rw [List.length_replicate]; omega), List.getElem?_eq_none (by rw [fr_len]; omega)]
theorem get_last2 {st : Store} {a b : Cell} : (st ++ [a] ++ [b])[st.length + 1]? = some b := by simp
theorem get_prev2 {st : Store} {a b : Cell} : (st ++ [a] ++ [b])[st.length]? = some a := by simp
theorem set_last2 {st : Store} {a b c : Cell} : (st ++ [a] ++ [b]).set (st.length + 1) c = st ++ [a] ++ [c] := by simp
/-- the way back -/
theorem solved_back (hw : w ≤ 20) (hT : Tri w j piv K) (hjw : j ≤ w) (hS : Sup w 0 j piv y) (h0 : ∀ s, s < j → ev w (K s) y = 0) {C M N : Nat} (hC : w < C) (hKs : ∀ s, s < j → Cd N N C (K s)) (hy : Cd M M w y) (hN : N < 2 ^ 1000) (hM : M < 2 ^ 1000)
    {r0 r1 a5 a6 a7 a8 a9 a10 : Option D} {Q : Fl → Store → Prop}
    (hQ : ∀ f b5 b6 b7 b8 b9 b10 b12, (∀ c, c < w → f c = y c) → Q (.nx [r0, r1, some (.int many), some (.int w), some (.ref st.length), b5, b6, b7, b8, b9, b10, some (.ref (st.length + 1)), b12, none, none, none]) (st ++ [.lst (kcell C j piv K)] ++ [.lst (fr w f)])) :
    Wp (evS (callF tbl (k + 5)) (.for_ (.tup (.cons (.nm 7) (.cons (.nm 6) .nil))) (.sq (.bi (.rev false) (.cons (.var 4) .nil))) (.seq (.asg (.nm 12) (.call 9 (.cons (.comp false (.call 6 (.cons (.bi .idx (.cons (.var 6) (.cons (.var 13) .nil))) (.cons (.bi .idx (.cons (.var 11) (.cons (.var 13) .nil))) .nil))) [13] true (.rg1 (.var 3)) (.bi .ne (.cons (.var 13) (.cons (.var 7) .nil)))) .nil))) (.seq (.asg (.sub (.var 11) (.var 7)) (.call 5 (.cons (.bi .idx (.cons (.var 6) (.cons (.var 3) .nil))) (.cons (.var 12) .nil)))) .skip)))
      [r0, r1, some (.int many), some (.int w), some (.ref st.length), a5, a6, a7, a8, a9, a10, some (.ref (st.length + 1)), none, none, none, none] (st ++ [.lst (kcell C j piv K)] ++ [.lst (fr w (fun _ => 0))])) Q := by
  have hsrc : evI (callF tbl (k + 5)) (.sq (.bi (.rev false) (.cons (.var 4) .nil))) [r0, r1, some (.int many), some (.int w), some (.ref st.length), a5, a6, a7, a8, a9, a10, some (.ref (st.length + 1)), none, none, none, none] (st ++ [.lst (kcell C j piv K)] ++ [.lst (fr w (fun _ => 0))]) = .ok (.items (kcell C j piv K).reverse) (st ++ [.lst (kcell C j piv K)] ++ [.lst (fr w (fun _ => 0))]) := by
    have h1 := rev_ref (get_prev2 (st := st) (a := .lst (kcell C j piv K)) (b := .lst (fr w (fun _ => 0))))
    simp only [iE_sq, eS_seq, eS_skip, eS_ret, eS_ex, eS_asg, eS_ite, eS_raise, eE_call, eE_bi, eE_var, eE_cst, eE_glo, eE_fnv, eE_tup, eE_lst, eE_and, eE_or, eE_not, eE_ite, eE_mth, eE_chain, eE_sl, intP, slT, eA_cons, eA_nil, eT_nm, eT_tup, eT_cons, eT_nil, go_ok, go_exc, go_stuck, gv0, gvS, List.set_cons_zero, List.set_cons_succ, b_add, b_sub, b_mul, b_fdiv, b_mod, b_neg, b_abs, b_lt, b_le, b_gt, b_ge, b_eqI, b_neI, b_max, b_min, asBool_bl, mkTup1, mkTup2, b_idx, ix0, ix1, Bool.false_eq_true, reduceIte, b_isinst, b_len, b_all, b_any, b_tuple, b_list, b_append, b_pop, b_rev, b_int, b_isN, b_isNN, eT_sub, mkL_in, mkL_new, Bool.not_true, Bool.not_false, it_two, it_three, lenL, lenTu, mkLst_nil, mkTup3, isTL, isTT, go_assoc, h1, sqL]
  have hlen : (kcell C j piv K).length = j := by unfold kcell; rw [List.length_map, List.length_range]
  refine wp_forS hsrc (fun m ρ st' => ∃ f, Part w j m piv y f ∧ st' = st ++ [.lst (kcell C j piv K)] ++ [.lst (fr w f)] ∧ ∃ a5 a6 a7 a8 a9 a10 a12, ρ = [r0, r1, some (.int many), some (.int w), some (.ref st.length), a5, a6, a7, a8, a9, a10, some (.ref (st.length + 1)), a12, none, none, none]) ?_ ?_ ?_
  · exact ⟨_, ⟨fun t a b => by omega, fun _ _ _ => rfl⟩, rfl, _, _, _, _, _, _, _, rfl⟩
  · rintro m x hx ρ st' ⟨f, hf, rfl, b5, b6, b7, b8, b9, b10, b12, rfl⟩
    have hm : m < j := by
      have := (List.getElem?_eq_some_iff.mp hx).1
      rwa [List.length_reverse, hlen] at this
    rw [List.getElem?_reverse (by rw [hlen]; exact hm), hlen] at hx
    obtain ⟨hs, rfl⟩ := get_range_some hx
    have hp := (hT (j - 1 - m) hs).1
    have hsum := part_sum hT hS hm hf (h0 _ hs)
    have hput := part_put hT hm hf
    obtain ⟨zK, zK0, zKN, hKn⟩ := hKs _ hs
    obtain ⟨zy, zy0, zyM, hyn⟩ := hy
    have hszK : ∀ c, c < C → Sz (K (j - 1 - m) c) 1000 := fun c hc => (hKs _ hs).sz hc hN hN
    have hof : ∀ c, c < w → Ov zy M (f c) := fun c hc => by
      rcases part_or hf hc with q | q
      · rw [q]; obtain ⟨n, hn, e⟩ := hyn c hc; exact ⟨n, hn, e⟩
      · rw [q]; exact ov_zero
    have hszf : ∀ c, c < w → Sz (f c) 1000 := fun c hc => ov_sz (hof c hc) zy0 hM (Nat.lt_of_le_of_lt zyM hM)
    generalize hsg : j - 1 - m = s at *
    simp only [encK, eT_tup, it_two, it_three, eT_cons, eT_nm, eT_nil, go_ok, List.set_cons_zero, List.set_cons_succ]
    have hqs : ∀ q ∈ ((List.range w).filter (fun c => decide (c ≠ piv s))).map (fun c => K s c * f c), Ov (zK * zy) (N * M) q := fun q hq => by
      obtain ⟨c, hc, rfl⟩ := List.mem_map.mp hq
      have hc' := List.mem_range.mp (List.mem_filter.mp hc).1
      obtain ⟨n, hn, e⟩ := hKn c (by omega)
      exact ov_mul ⟨n, hn, e⟩ (hof c hc') zK0 zy0
    have hNM : N * M < 2 ^ 2000 := mul_lt_pow hN hM
    have hlenq : (((List.range w).filter (fun c => decide (c ≠ piv s))).map (fun c => K s c * f c)).length ≤ 20 := by
      rw [List.length_map]
      refine Nat.le_trans (List.length_filter_le _ _) ?_
      rw [List.length_range]; exact hw
    have h20 : 20 * (N * M) < 2 ^ 2100 := by
      have : 20 * (N * M) < 2 ^ 5 * 2 ^ 2000 := Nat.mul_lt_mul'' (by decide) hNM
      rw [← Nat.pow_add] at this
      exact Nat.lt_of_lt_of_le this (pow_le2 (by omega))
    have hz21 : (zK * zy).natAbs < 2 ^ 2100 := by
      rw [Int.natAbs_mul]
      exact Nat.lt_of_lt_of_le (Nat.lt_of_le_of_lt (Nat.mul_le_mul zKN zyM) hNM) (pow_le2 (by omega))
    have ht := fun st' => total_ov (k := k + 1) (st := st') (b := 2100) (Int.mul_ne_zero zK0 zy0) hz21 hqs (Nat.lt_of_le_of_lt (Nat.mul_le_mul_right _ hlenq) h20) (Nat.lt_of_lt_of_le hNM (pow_le2 (by omega))) (by omega)
    have hov : Ov (zK * zy) (20 * (N * M)) (rsum (((List.range w).filter (fun c => decide (c ≠ piv s))).map (fun c => K s c * f c))) := by
      have hgen : ∀ qs : List Rat, (∀ q ∈ qs, Ov (zK * zy) (N * M) q) → ∀ n, Ov (zK * zy) (n * (N * M)) (rsum (qs.take n)) := fun qs hq n => by
        induction n with
        | zero => exact ov_zero
        | succ n ih =>
          rw [List.take_add_one]
          cases hg : qs[n]? with
          | none =>
            show Ov _ _ (rsum (List.take n qs ++ []))
            rw [List.append_nil]
            exact ov_mono ih (Nat.mul_le_mul_right _ (by omega))
          | some q =>
            show Ov _ _ (rsum (List.take n qs ++ [q]))
            rw [rsum_snoc, Nat.add_mul, Nat.one_mul]
            exact ov_add ih (hq q (List.mem_of_getElem? hg))
      have := hgen _ hqs 20
      rwa [List.take_of_length_le hlenq] at this
    have hszr := ov_sz hov (Int.mul_ne_zero zK0 zy0) h20 hz21
    rw [rsum_filter] at ht hszr
    refine wp_seq (wp_asgP (d := encR (sumR w (fun c => if decide (c ≠ piv s) then K s c * f c else 0))) (Wp.eq ?_) ?_)
    · simp only [eS_seq, eS_skip, eS_ret, eS_ex, eS_asg, eS_ite, eS_raise, eE_call, eE_bi, eE_var, eE_cst, eE_glo, eE_fnv, eE_tup, eE_lst, eE_and, eE_or, eE_not, eE_ite, eE_mth, eE_chain, eE_sl, intP, slT, eA_cons, eA_nil, eT_nm, eT_tup, eT_cons, eT_nil, go_ok, go_exc, go_stuck, gv0, gvS, List.set_cons_zero, List.set_cons_succ, b_add, b_sub, b_mul, b_fdiv, b_mod, b_neg, b_abs, b_lt, b_le, b_gt, b_ge, b_eqI, b_neI, b_max, b_min, asBool_bl, mkTup1, mkTup2, b_idx, ix0, ix1, Bool.false_eq_true, reduceIte, b_isinst, b_len, b_all, b_any, b_tuple, b_list, b_append, b_pop, b_rev, b_int, b_isN, b_isNN, eT_sub, mkL_in, mkL_new, Bool.not_true, Bool.not_false, it_two, it_three, lenL, lenTu, mkLst_nil, mkTup3, isTL, isTT, go_assoc]
      refine Wp.on (comp_test (zs := List.range w) (e := fun c : Nat => D.int (c : Int)) (r := fun c : Nat => encR (K s c * f c)) (p := fun c => decide (c ≠ piv s)) (src_rg1 (i := w) rfl rfl (by omega)) (fun c hc => ?_) (fun c hc _ => ?_) (by rw [List.length_range]; omega)) ?_
      · have e : (!((c : Int) == ((piv s : Nat) : Int))) = decide (c ≠ piv s) := by
          by_cases e : c = piv s
          · subst e; simp
          · simp [e]; omega
        simp only [eS_seq, eS_skip, eS_ret, eS_ex, eS_asg, eS_ite, eS_raise, eE_call, eE_bi, eE_var, eE_cst, eE_glo, eE_fnv, eE_tup, eE_lst, eE_and, eE_or, eE_not, eE_ite, eE_mth, eE_chain, eE_sl, intP, slT, eA_cons, eA_nil, eT_nm, eT_tup, eT_cons, eT_nil, go_ok, go_exc, go_stuck, gv0, gvS, List.set_cons_zero, List.set_cons_succ, b_add, b_sub, b_mul, b_fdiv, b_mod, b_neg, b_abs, b_lt, b_le, b_gt, b_ge, b_eqI, b_neI, b_max, b_min, asBool_bl, mkTup1, mkTup2, b_idx, ix0, ix1, Bool.false_eq_true, reduceIte, b_isinst, b_len, b_all, b_any, b_tuple, b_list, b_append, b_pop, b_rev, b_int, b_isN, b_isNN, eT_sub, mkL_in, mkL_new, Bool.not_true, Bool.not_false, it_two, it_three, lenL, lenTu, mkLst_nil, mkTup3, isTL, isTT, go_assoc, e]
      · have hc := List.mem_range.mp hc
        have h1 := fun st' => product_sz (k := k + 2) (st := st') (hszK c (by omega)) (hszf c hc) (by omega)
        have i1 : ∀ st', idxV (.lst (fr C (K s))) (.int (c : Nat)) st' = .ok (encR (K s c)) st' := fun st' => ix_lst (fr_get (by omega))
        have i2 := ix_seq (seq_ref (get_last2 (st := st) (a := .lst (kcell C j piv K)) (b := .lst (fr w f)))) (fr_get (u := f) hc)
        simp only [eS_seq, eS_skip, eS_ret, eS_ex, eS_asg, eS_ite, eS_raise, eE_call, eE_bi, eE_var, eE_cst, eE_glo, eE_fnv, eE_tup, eE_lst, eE_and, eE_or, eE_not, eE_ite, eE_mth, eE_chain, eE_sl, intP, slT, eA_cons, eA_nil, eT_nm, eT_tup, eT_cons, eT_nil, go_ok, go_exc, go_stuck, gv0, gvS, List.set_cons_zero, List.set_cons_succ, b_add, b_sub, b_mul, b_fdiv, b_mod, b_neg, b_abs, b_lt, b_le, b_gt, b_ge, b_eqI, b_neI, b_max, b_min, asBool_bl, mkTup1, mkTup2, b_idx, ix0, ix1, Bool.false_eq_true, reduceIte, b_isinst, b_len, b_all, b_any, b_tuple, b_list, b_append, b_pop, b_rev, b_int, b_isN, b_isNN, eT_sub, mkL_in, mkL_new, Bool.not_true, Bool.not_false, it_two, it_three, lenL, lenTu, mkLst_nil, mkTup3, isTL, isTT, go_assoc, i1, i2, h1]
      · have := ht (st ++ [.lst (kcell C j piv K)] ++ [.lst (fr w f)])
        rw [List.map_map] at this
        exact Wp.of this ⟨rfl, rfl⟩
    · have hset := setItem_ref (x := encR (y (piv s))) (get_last2 (st := st) (a := .lst (kcell C j piv K)) (b := .lst (fr w f))) (i := piv s) (by rw [fr_len]; exact hp)
      rw [set_last2, fr_set hp] at hset
      have i1 : ∀ st', idxV (.lst (fr C (K s))) (.int (w : Nat)) st' = .ok (encR (K s w)) st' := fun st' => ix_lst (fr_get (by omega))
      have h2 := fun st' => less_sz (k := k + 2) (st := st') (hszK w (by omega)) hszr (by omega)
      rw [hsum] at h2
      refine wp_seq (wp_asgT (d := encR (y (piv s))) (st' := st ++ [.lst (kcell C j piv K)] ++ [.lst (fr w f)]) (by simp only [eS_seq, eS_skip, eS_ret, eS_ex, eS_asg, eS_ite, eS_raise, eE_call, eE_bi, eE_var, eE_cst, eE_glo, eE_fnv, eE_tup, eE_lst, eE_and, eE_or, eE_not, eE_ite, eE_mth, eE_chain, eE_sl, intP, slT, eA_cons, eA_nil, eT_nm, eT_tup, eT_cons, eT_nil, go_ok, go_exc, go_stuck, gv0, gvS, List.set_cons_zero, List.set_cons_succ, b_add, b_sub, b_mul, b_fdiv, b_mod, b_neg, b_abs, b_lt, b_le, b_gt, b_ge, b_eqI, b_neI, b_max, b_min, asBool_bl, mkTup1, mkTup2, b_idx, ix0, ix1, Bool.false_eq_true, reduceIte, b_isinst, b_len, b_all, b_any, b_tuple, b_list, b_append, b_pop, b_rev, b_int, b_isN, b_isNN, eT_sub, mkL_in, mkL_new, Bool.not_true, Bool.not_false, it_two, it_three, lenL, lenTu, mkLst_nil, mkTup3, isTL, isTT, go_assoc, i1, h2] <;> rfl) (st2 := st ++ [.lst (kcell C j piv K)] ++ [.lst (fr w (fun c => if c = piv s then y (piv s) else f c))]) (by simp only [eS_seq, eS_skip, eS_ret, eS_ex, eS_asg, eS_ite, eS_raise, eE_call, eE_bi, eE_var, eE_cst, eE_glo, eE_fnv, eE_tup, eE_lst, eE_and, eE_or, eE_not, eE_ite, eE_mth, eE_chain, eE_sl, intP, slT, eA_cons, eA_nil, eT_nm, eT_tup, eT_cons, eT_nil, go_ok, go_exc, go_stuck, gv0, gvS, List.set_cons_zero, List.set_cons_succ, b_add, b_sub, b_mul, b_fdiv, b_mod, b_neg, b_abs, b_lt, b_le, b_gt, b_ge, b_eqI, b_neI, b_max, b_min, asBool_bl, mkTup1, mkTup2, b_idx, ix0, ix1, Bool.false_eq_true, reduceIte, b_isinst, b_len, b_all, b_any, b_tuple, b_list, b_append, b_pop, b_rev, b_int, b_isN, b_isNN, eT_sub, mkL_in, mkL_new, Bool.not_true, Bool.not_false, it_two, it_three, lenL, lenTu, mkLst_nil, mkTup3, isTL, isTT, go_assoc, hset] <;> rfl) ?_)
      exact wp_skip ⟨_, hput, rfl, _, _, _, _, _, _, _, rfl⟩
  · rintro ρ st' ⟨f, hf, rfl, b5, b6, b7, b8, b9, b10, b12, rfl⟩
    rw [List.length_reverse, hlen] at hf
    refine hQ f _ _ _ _ _ _ _ fun c hc => ?_
    by_cases e : ∃ t, t < j ∧ piv t = c
    · obtain ⟨t, a, rfl⟩ := e
      exact hf.1 t (by omega) a
    · rw [hf.2 c hc fun t _ b q => e ⟨t, b, q⟩]
      by_cases e2 : y c = 0
      · exact e2.symm
      · obtain ⟨t, _, a, q⟩ := hS.2 c hc e2
        exact absurd ⟨t, a, q⟩ e
end
end K82
namespace K82
open PySem PC
section
variable {k many w B : Nat} {v : Nat → Nat → Rat} {A : Nat → Nat → Int} {R : Int} {st : Store}
theorem solved_call (hm : 1 ≤ many) (hm2 : many ≤ 40) (hw : w ≤ 20) (hR : R ≠ 0) (hB : 1 ≤ B) (hRB : R.natAbs ≤ B)
    (hv : ∀ i c, i < many → c < w + 1 → v i c = (A i c : Rat) / (R : Rat)) (hA : ∀ i c, i < many → c < w + 1 → (A i c).natAbs ≤ B) (hβ : (w + 1) * ((2 * (w + 1) * B) ^ w * B) < 2 ^ 1000) :
    Wp (callF tbl (k + 6) 14 [.lst ((List.range many).map fun i => .tup (fr w (v i))), .lst ((List.range many).map fun i => encR (v i w))] st) fun d st' => st' = st ∧ SolOk many w B v d := by
  refine call_wp (d := d_solved) rfl rfl rfl ?_
  show Wp (evS (callF tbl (k + 5)) b_solved [some (.lst ((List.range many).map fun i => .tup (fr w (v i)))), some (.lst ((List.range many).map fun i => encR (v i w))), none, none, none, none, none, none, none, none, none, none, none, none, none, none] st) _
  unfold b_solved
  have hgt : decide ((0 : Int) < (many : Int)) = true := decide_eq_true (by omega)
  have hl0 : lenV (.lst ((List.range many).map fun i => D.tup (fr w (v i)))) st = .ok (.int many) st := by rw [lenL, List.length_map, List.length_range]
  have hi0 : idxV (.lst ((List.range many).map fun i => D.tup (fr w (v i)))) (.int 0) st = .ok (.tup (fr w (v 0))) st := ix_lst (i := 0) (get_range (by omega))
  have hlt : lenV (.tup (fr w (v 0))) st = .ok (.int w) st := by rw [lenTu, fr_len]
  refine wp_seq (wp_asgT (d := .tup [.int many, .int w]) (st' := st) (by simp only [eS_seq, eS_skip, eS_ret, eS_ex, eS_asg, eS_ite, eS_raise, eE_call, eE_bi, eE_var, eE_cst, eE_glo, eE_fnv, eE_tup, eE_lst, eE_and, eE_or, eE_not, eE_ite, eE_mth, eE_chain, eE_sl, intP, slT, eA_cons, eA_nil, eT_nm, eT_tup, eT_cons, eT_nil, go_ok, go_exc, go_stuck, gv0, gvS, List.set_cons_zero, List.set_cons_succ, b_add, b_sub, b_mul, b_fdiv, b_mod, b_neg, b_abs, b_lt, b_le, b_gt, b_ge, b_eqI, b_neI, b_max, b_min, asBool_bl, mkTup1, mkTup2, b_idx, ix0, ix1, Bool.false_eq_true, reduceIte, b_isinst, b_len, b_all, b_any, b_tuple, b_list, b_append, b_pop, b_rev, b_int, b_isN, b_isNN, eT_sub, mkL_in, mkL_new, Bool.not_true, Bool.not_false, it_two, it_three, lenL, lenTu, mkLst_nil, mkTup3, isTL, isTT, go_assoc, List.length_map, List.length_range, hgt, hi0, fr_len] <;> rfl) (st2 := st) (by simp only [eS_seq, eS_skip, eS_ret, eS_ex, eS_asg, eS_ite, eS_raise, eE_call, eE_bi, eE_var, eE_cst, eE_glo, eE_fnv, eE_tup, eE_lst, eE_and, eE_or, eE_not, eE_ite, eE_mth, eE_chain, eE_sl, intP, slT, eA_cons, eA_nil, eT_nm, eT_tup, eT_cons, eT_nil, go_ok, go_exc, go_stuck, gv0, gvS, List.set_cons_zero, List.set_cons_succ, b_add, b_sub, b_mul, b_fdiv, b_mod, b_neg, b_abs, b_lt, b_le, b_gt, b_ge, b_eqI, b_neI, b_max, b_min, asBool_bl, mkTup1, mkTup2, b_idx, ix0, ix1, Bool.false_eq_true, reduceIte, b_isinst, b_len, b_all, b_any, b_tuple, b_list, b_append, b_pop, b_rev, b_int, b_isN, b_isNN, eT_sub, mkL_in, mkL_new, Bool.not_true, Bool.not_false, it_two, it_three, lenL, lenTu, mkLst_nil, mkTup3, isTL, isTT, go_assoc] <;> rfl) ?_)
  refine wp_seq (wp_asg (d := .ref st.length) (st' := st ++ [.lst []]) (by simp only [eS_seq, eS_skip, eS_ret, eS_ex, eS_asg, eS_ite, eS_raise, eE_call, eE_bi, eE_var, eE_cst, eE_glo, eE_fnv, eE_tup, eE_lst, eE_and, eE_or, eE_not, eE_ite, eE_mth, eE_chain, eE_sl, intP, slT, eA_cons, eA_nil, eT_nm, eT_tup, eT_cons, eT_nil, go_ok, go_exc, go_stuck, gv0, gvS, List.set_cons_zero, List.set_cons_succ, b_add, b_sub, b_mul, b_fdiv, b_mod, b_neg, b_abs, b_lt, b_le, b_gt, b_ge, b_eqI, b_neI, b_max, b_min, asBool_bl, mkTup1, mkTup2, b_idx, ix0, ix1, Bool.false_eq_true, reduceIte, b_isinst, b_len, b_all, b_any, b_tuple, b_list, b_append, b_pop, b_rev, b_int, b_isN, b_isNN, eT_sub, mkL_in, mkL_new, Bool.not_true, Bool.not_false, it_two, it_three, lenL, lenTu, mkLst_nil, mkTup3, isTL, isTT, go_assoc] <;> rfl) ?_)
  refine wp_seq (solved_outer hR hB hRB hv hA hβ hm2 hw ?_ ?_)
  · intro j idx piv K a5 a6 a7 a8 a9 a10 hK
    have hT := hK.tri
    obtain ⟨y, hS, h0⟩ := sol_exists hT j (Nat.le_refl _)
    rw [Nat.sub_self] at hS h0
    have h0' : ∀ s, s < j → ev w (K s) y = 0 := fun s hs => h0 s (by omega) hs
    have hall := hK.fn y h0'
    have hcy : Cd ((2 * (w + 1) * B) ^ w) ((2 * (w + 1) * B) ^ w) w y := by
      have hj := hK.le
      refine (sol_bound (W := many) hR hB (fun i c hi hc => vx_ax hR hv i c hi (by omega)) (fun i c hi hc => ax_le hA hRB i c hi (by omega)) hK.ix hK.pv (dist_of_tri hT) hK.col hS (fun s hs => hall _ (hK.ix s hs))).mono ?_ ?_ <;> exact pow_mono hB hj
    have hM : (2 * (w + 1) * B) ^ w < 2 ^ 1000 := by
      refine Nat.lt_of_le_of_lt ?_ hβ
      calc (2 * (w + 1) * B) ^ w = 1 * ((2 * (w + 1) * B) ^ w * 1) := by rw [Nat.one_mul, Nat.mul_one]
        _ ≤ (w + 1) * ((2 * (w + 1) * B) ^ w * B) := Nat.mul_le_mul (by omega) (Nat.mul_le_mul_left _ hB)
    have hmul : biV (.mul true) [.lst [.tup [.int 0, .int 1]], .int w] (st ++ [.lst (kcell (w + 1 + many) j piv K)]) = .ok (.ref (st.length + 1)) (st ++ [.lst (kcell (w + 1 + many) j piv K)] ++ [.lst (fr w (fun _ => 0))]) := by
      rw [b_mulV, mulLN (by omega), repl_fr, mkL_new, List.length_append]; rfl
    refine wp_seq (wp_asg (d := .ref (st.length + 1)) (st' := st ++ [.lst (kcell (w + 1 + many) j piv K)] ++ [.lst (fr w (fun _ => 0))]) (by simp only [eS_seq, eS_skip, eS_ret, eS_ex, eS_asg, eS_ite, eS_raise, eE_call, eE_bi, eE_var, eE_cst, eE_glo, eE_fnv, eE_tup, eE_lst, eE_and, eE_or, eE_not, eE_ite, eE_mth, eE_chain, eE_sl, intP, slT, eA_cons, eA_nil, eT_nm, eT_tup, eT_cons, eT_nil, go_ok, go_exc, go_stuck, gv0, gvS, List.set_cons_zero, List.set_cons_succ, b_add, b_sub, b_mul, b_fdiv, b_mod, b_neg, b_abs, b_lt, b_le, b_gt, b_ge, b_eqI, b_neI, b_max, b_min, asBool_bl, mkTup1, mkTup2, b_idx, ix0, ix1, Bool.false_eq_true, reduceIte, b_isinst, b_len, b_all, b_any, b_tuple, b_list, b_append, b_pop, b_rev, b_int, b_isN, b_isNN, eT_sub, mkL_in, mkL_new, Bool.not_true, Bool.not_false, it_two, it_three, lenL, lenTu, mkLst_nil, mkTup3, isTL, isTT, go_assoc, mkLst_one, hmul] <;> rfl) ?_)
    refine wp_seq (solved_back hw hT hK.le hS h0' (show w < w + 1 + many by omega) (fun s hs => hK.smallK hR hB (vx_ax hR hv) (ax_le hA hRB) hRB (by omega) (by omega) hs) hcy hβ hM ?_)
    intro f b5 b6 b7 b8 b9 b10 b12 hf
    have htu := tuple_seq (seq_ref (get_last2 (st := st) (a := .lst (kcell (w + 1 + many) j piv K)) (b := .lst (fr w f))))
    rw [fr_ext hf] at htu ⊢
    refine wp_seq (wp_ret (d := .tup [.tup (fr w y), .non]) (st' := st ++ [.lst (kcell (w + 1 + many) j piv K)] ++ [.lst (fr w y)]) (by simp only [eS_seq, eS_skip, eS_ret, eS_ex, eS_asg, eS_ite, eS_raise, eE_call, eE_bi, eE_var, eE_cst, eE_glo, eE_fnv, eE_tup, eE_lst, eE_and, eE_or, eE_not, eE_ite, eE_mth, eE_chain, eE_sl, intP, slT, eA_cons, eA_nil, eT_nm, eT_tup, eT_cons, eT_nil, go_ok, go_exc, go_stuck, gv0, gvS, List.set_cons_zero, List.set_cons_succ, b_add, b_sub, b_mul, b_fdiv, b_mod, b_neg, b_abs, b_lt, b_le, b_gt, b_ge, b_eqI, b_neI, b_max, b_min, asBool_bl, mkTup1, mkTup2, b_idx, ix0, ix1, Bool.false_eq_true, reduceIte, b_isinst, b_len, b_all, b_any, b_tuple, b_list, b_append, b_pop, b_rev, b_int, b_isN, b_isNN, eT_sub, mkL_in, mkL_new, Bool.not_true, Bool.not_false, it_two, it_three, lenL, lenTu, mkLst_nil, mkTup3, isTL, isTT, go_assoc, htu] <;> rfl) ?_)
    refine ⟨_, rfl, ?_⟩
    rw [List.append_assoc]
    refine leave_wp ?_ ?_ ⟨rfl, Or.inl ⟨y, rfl, hS.1, hcy, fun i hi => ?_⟩⟩
    · show (belows st.length (fr w y) && (true && true)) = true
      rw [fr_below]; rfl
    · have : szs (fr w y) ≤ w * 6 := fr_sz
      simp only [sz, szs]
      omega
    · rw [← ev_vx]; exact hall i hi
  · intro d c hd hb hs
    exact ⟨_, rfl, leave_wp (below_mono (Nat.zero_le _) hb) hs ⟨rfl, hd⟩⟩
end
end K82
set_option Elab.async false
set_option linter.all false
set_option maxRecDepth 100000
set_option maxHeartbeats 1000000
namespace K82
open PySem PC
theorem fr_cut {n i r : Nat} {q : Nat → Rat} (h : i + r ≤ n) : ((fr n q).drop i).take r = fr r (fun c => q (i + c)) := by
  obtain ⟨m, rfl⟩ : ∃ m, n = i + (r + m) := ⟨n - i - r, by omega⟩
  rw [fr_add, List.drop_left' fr_len, fr_add, List.take_left' fr_len]
theorem fr_drop {n i : Nat} {q : Nat → Rat} (h : i ≤ n) : (fr n q).drop i = fr (n - i) (fun c => q (i + c)) := by
  obtain ⟨m, rfl⟩ : ∃ m, n = i + m := ⟨n - i, by omega⟩
  rw [fr_add, List.drop_left' fr_len, Nat.add_sub_cancel_left]
theorem fr_map {n : Nat} {q : Nat → Rat} : fr n q = ((List.range n).map q).map encR := by rw [List.map_map]; rfl
theorem allV_mapI {ι : Type} {f : ι → Bool} {zs : List ι} {st : Store} : allV (.lst (zs.map fun z => D.bl (f z))) st = .ok (.bl (zs.all f)) st := by
  have h : ∀ zs : List ι, allBools (zs.map fun z => D.bl (f z)) = some (zs.map f) := fun zs => by
    induction zs with
    | nil => rfl
    | cons z zs ih =>
      show (allBools (zs.map fun z => D.bl (f z))).map (f z :: ·) = _
      rw [ih]; rfl
  show (match (some (zs.map fun z => D.bl (f z))).bind allBools with
    | some bs => Res.ok (D.bl (bs.all id)) st
    | none => .stuck) = _
  rw [Option.bind_some, h]
  show Res.ok (D.bl ((zs.map f).all id)) st = _
  rw [List.all_map]; rfl
theorem anyV_mapI {ι : Type} {f : ι → Bool} {zs : List ι} {st : Store} : anyV (.lst (zs.map fun z => D.bl (f z))) st = .ok (.bl (zs.any f)) st := by
  have h : ∀ zs : List ι, allBools (zs.map fun z => D.bl (f z)) = some (zs.map f) := fun zs => by
    induction zs with
    | nil => rfl
    | cons z zs ih =>
      show (allBools (zs.map fun z => D.bl (f z))).map (f z :: ·) = _
      rw [ih]; rfl
  show (match (some (zs.map fun z => D.bl (f z))).bind allBools with
    | some bs => Res.ok (D.bl (bs.any id)) st
    | none => .stuck) = _
  rw [Option.bind_some, h]
  show Res.ok (D.bl ((zs.map f).any id)) st = _
  rw [List.any_map]; rfl
/-- a row over one denominator -/
structure Row (n B : Nat) (R : Int) (q : Nat → Rat) : Prop where
  n1 : 1 ≤ n
  n40 : n ≤ 40
  R0 : R ≠ 0
  B1 : 1 ≤ B
  RB : R.natAbs ≤ B
  ov : ∀ i, i < n → Ov R B (q i)
  B120 : B < 2 ^ 120
section
variable {n B r : Nat} {R : Int} {q : Nat → Rat}
theorem Row.sz (h : Row n B R q) {i : Nat} (hi : i < n) : Sz (q i) 120 := ov_sz (h.ov i hi) h.R0 h.B120 (Nat.lt_of_le_of_lt h.RB h.B120)
theorem check_row {k : Nat} {st : Store} (h : Row n B R q) (hr : r ≤ 20) : callF tbl (k + 3) 11 [.tup (fr n q), .int (r : Nat)] st = .ok .non st := by
  rw [fr_map]
  refine check_call (fun p hp => ?_) (by rw [List.length_map, List.length_range]; exact h.n1) (by rw [List.length_map, List.length_range]; exact h.n40) (by omega) (by omega)
  obtain ⟨i, hi, rfl⟩ := List.mem_map.mp hp
  exact Nat.lt_of_lt_of_le (h.sz (List.mem_range.mp hi)).2 (pow_le2 (by omega))
/-- the paper that is told -/
def Told (n r B : Nat) (q : Nat → Rat) (d : D) : Prop :=
  (∃ y, d = .tup [.str "recursion", .tup (fr r y)] ∧ Cd ((2 * (r + 1) * B) ^ r) ((2 * (r + 1) * B) ^ r) r y ∧ ∀ i, i < n - r → sumR r (fun c => y c * q (i + c)) = q (i + r)) ∨
  (∃ l, d = .tup [.str "against", .tup (fr (n - r) l)] ∧ Cd ((r + 1) * ((2 * (r + 1) * B) ^ r * B)) ((r + 1) * ((2 * (r + 1) * B) ^ r * B)) (n - r) l ∧ (∀ c, c < r → sumR (n - r) (fun k => l k * q (c + k)) = 0) ∧ sumR (n - r) (fun k => l k * q (r + k)) ≠ 0)
theorem paper_call {k : Nat} {st : Store} (h : Row n B R q) (hr : r ≤ 20) (hβ : (r + 1) * ((2 * (r + 1) * B) ^ r * B) < 2 ^ 1000) : Wp (callF tbl (k + 7) 15 [.tup (fr n q), .int (r : Nat)] st) fun d st' => st' = st ∧ Told n r B q d := by
  have hn := h.n40
  refine call_wp (d := d_recursion_paper) rfl rfl rfl ?_
  show Wp (evS (callF tbl (k + 6)) b_recursion_paper [some (.tup (fr n q)), some (.int (r : Nat)), none, none, none, none] st) _
  unfold b_recursion_paper
  have hch := check_row (k := k + 3) (st := st) h hr
  have hmax : max2 ((n : Int) - (r : Int)) 0 = ((n - r : Nat) : Int) := by unfold max2; split <;> omega
  refine wp_seq (wp_ex (d := .non) (st' := st) (by simp only [eS_seq, eS_skip, eS_ret, eS_ex, eS_asg, eS_ite, eS_raise, eE_call, eE_bi, eE_var, eE_cst, eE_glo, eE_fnv, eE_tup, eE_lst, eE_and, eE_or, eE_not, eE_ite, eE_mth, eE_chain, eE_sl, intP, slT, eA_cons, eA_nil, eT_nm, eT_tup, eT_cons, eT_nil, go_ok, go_exc, go_stuck, gv0, gvS, List.set_cons_zero, List.set_cons_succ, b_add, b_sub, b_mul, b_fdiv, b_mod, b_neg, b_abs, b_lt, b_le, b_gt, b_ge, b_eqI, b_neI, b_max, b_min, asBool_bl, mkTup1, mkTup2, b_idx, ix0, ix1, Bool.false_eq_true, reduceIte, b_isinst, b_len, b_all, b_any, b_tuple, b_list, b_append, b_pop, b_rev, b_int, b_isN, b_isNN, eT_sub, mkL_in, mkL_new, Bool.not_true, Bool.not_false, it_two, it_three, lenL, lenTu, mkLst_nil, mkTup3, isTL, isTT, go_assoc, hch] <;> rfl) ?_)
  refine wp_seq (wp_asgP (d := .int ((n - r : Nat) : Int)) (by simp only [eS_seq, eS_skip, eS_ret, eS_ex, eS_asg, eS_ite, eS_raise, eE_call, eE_bi, eE_var, eE_cst, eE_glo, eE_fnv, eE_tup, eE_lst, eE_and, eE_or, eE_not, eE_ite, eE_mth, eE_chain, eE_sl, intP, slT, eA_cons, eA_nil, eT_nm, eT_tup, eT_cons, eT_nil, go_ok, go_exc, go_stuck, gv0, gvS, List.set_cons_zero, List.set_cons_succ, b_add, b_sub, b_mul, b_fdiv, b_mod, b_neg, b_abs, b_lt, b_le, b_gt, b_ge, b_eqI, b_neI, b_max, b_min, asBool_bl, mkTup1, mkTup2, b_idx, ix0, ix1, Bool.false_eq_true, reduceIte, b_isinst, b_len, b_all, b_any, b_tuple, b_list, b_append, b_pop, b_rev, b_int, b_isN, b_isNN, eT_sub, mkL_in, mkL_new, Bool.not_true, Bool.not_false, it_two, it_three, lenL, lenTu, mkLst_nil, mkTup3, isTL, isTT, go_assoc, fr_len, hmax] <;> rfl) ?_)
  refine wp_seq (wp_iteB (x := decide (n - r = 0)) (st' := st) ?_ (fun hx => ?_) (fun hx => ?_))
  · have e : (((n - r : Nat) : Int) == 0) = decide (n - r = 0) := by
      rw [Bool.eq_iff_iff, beq_iff_eq, decide_eq_true_eq]; omega
    exact (by simp only [eS_seq, eS_skip, eS_ret, eS_ex, eS_asg, eS_ite, eS_raise, eE_call, eE_bi, eE_var, eE_cst, eE_glo, eE_fnv, eE_tup, eE_lst, eE_and, eE_or, eE_not, eE_ite, eE_mth, eE_chain, eE_sl, intP, slT, eA_cons, eA_nil, eT_nm, eT_tup, eT_cons, eT_nil, go_ok, go_exc, go_stuck, gv0, gvS, List.set_cons_zero, List.set_cons_succ, b_add, b_sub, b_mul, b_fdiv, b_mod, b_neg, b_abs, b_lt, b_le, b_gt, b_ge, b_eqI, b_neI, b_max, b_min, asBool_bl, mkTup1, mkTup2, b_idx, ix0, ix1, Bool.false_eq_true, reduceIte, b_isinst, b_len, b_all, b_any, b_tuple, b_list, b_append, b_pop, b_rev, b_int, b_isN, b_isNN, eT_sub, mkL_in, mkL_new, Bool.not_true, Bool.not_false, it_two, it_three, lenL, lenTu, mkLst_nil, mkTup3, isTL, isTT, go_assoc, e] <;> rfl)
  · have hx : n - r = 0 := of_decide_eq_true hx
    have hmul : biV (.mul false) [.tup [.tup [.int 0, .int 1]], .int (r : Nat)] st = .ok (.tup (fr r (fun _ => 0))) st := by
      rw [b_mulV, mulTN (by omega), repl_fr]
    refine wp_seq (wp_ret (d := .tup [.str "recursion", .tup (fr r (fun _ => 0))]) (st' := st) (by simp only [eS_seq, eS_skip, eS_ret, eS_ex, eS_asg, eS_ite, eS_raise, eE_call, eE_bi, eE_var, eE_cst, eE_glo, eE_fnv, eE_tup, eE_lst, eE_and, eE_or, eE_not, eE_ite, eE_mth, eE_chain, eE_sl, intP, slT, eA_cons, eA_nil, eT_nm, eT_tup, eT_cons, eT_nil, go_ok, go_exc, go_stuck, gv0, gvS, List.set_cons_zero, List.set_cons_succ, b_add, b_sub, b_mul, b_fdiv, b_mod, b_neg, b_abs, b_lt, b_le, b_gt, b_ge, b_eqI, b_neI, b_max, b_min, asBool_bl, mkTup1, mkTup2, b_idx, ix0, ix1, Bool.false_eq_true, reduceIte, b_isinst, b_len, b_all, b_any, b_tuple, b_list, b_append, b_pop, b_rev, b_int, b_isN, b_isNN, eT_sub, mkL_in, mkL_new, Bool.not_true, Bool.not_false, it_two, it_three, lenL, lenTu, mkLst_nil, mkTup3, isTL, isTT, go_assoc, hmul] <;> rfl) ?_)
    refine ⟨_, rfl, leave_wp0 rfl ?_ ⟨rfl, Or.inl ⟨_, rfl, ?_, fun i hi => by omega⟩⟩⟩
    · show (true && (belows st.length (fr r _) && true)) = true
      rw [fr_below]; rfl
    · exact ⟨1, by decide, Nat.one_le_pow _ _ (Nat.mul_pos (by omega) h.B1), fun c _ => ⟨0, Nat.zero_le _, by show (0 : Rat) = 0 / _; grind⟩⟩
  · have hx : n - r ≠ 0 := of_decide_eq_false hx
    refine wp_skip ?_
    have hsol := solved_call (k := k) (many := n - r) (w := r) (v := fun i c => q (i + c)) (A := fun i c => if hh : i + c < n then (h.ov (i + c) hh).choose else 0) (st := st) (by omega) (by omega) hr h.R0 h.B1 h.RB (fun i c hi hc => by
        have hh : i + c < n := by omega
        rw [dif_pos hh]
        exact (h.ov (i + c) hh).choose_spec.2) (fun i c hi hc => by
        have hh : i + c < n := by omega
        rw [dif_pos hh]
        exact (h.ov (i + c) hh).choose_spec.1) hβ
    obtain ⟨d, st1, e, hst, hd⟩ := hsol
    rw [hst] at e
    have hlist : cut (fr n q) (some (r : Int)) none = (List.range (n - r)).map fun i => encR (q (i + r)) := by
      rw [cut_from (i := r) rfl, fr_drop (by omega)]
      exact fr_ext fun c _ => by rw [Nat.add_comm]
    have hargs : ∀ (d1 d2 : D) (hd : d = .tup [d1, d2]), Wp (evS (callF tbl (k + 6)) (.asg (.tup (.cons (.nm 3) (.cons (.nm 4) .nil))) (.call 14 (.cons (.comp false (.sl false true true (.var 0) (.var 5) (.bi (.add false) (.cons (.var 5) (.cons (.var 1) .nil)))) [5] true (.rg1 (.var 2)) (.cst (.bl true))) (.cons (.bi (.list false) (.cons (.sl false true false (.var 0) (.var 1) .nil) .nil)) .nil)))) [some (.tup (fr n q)), some (.int (r : Nat)), some (.int ((n - r : Nat) : Int)), none, none, none] st) (fun f st' => f = .nx [some (.tup (fr n q)), some (.int (r : Nat)), some (.int ((n - r : Nat) : Int)), some d1, some d2, none] ∧ st' = st) := fun d1 d2 hd => by
      subst hd
      refine wp_asgTW ?_
      refine Wp.of (a := .tup [d1, d2]) (st := st) (Wp.eq ?_) (Wp.of (a := [some (.tup (fr n q)), some (.int (r : Nat)), some (.int ((n - r : Nat) : Int)), some d1, some d2, none]) (st := st) (by simp only [eS_seq, eS_skip, eS_ret, eS_ex, eS_asg, eS_ite, eS_raise, eE_call, eE_bi, eE_var, eE_cst, eE_glo, eE_fnv, eE_tup, eE_lst, eE_and, eE_or, eE_not, eE_ite, eE_mth, eE_chain, eE_sl, intP, slT, eA_cons, eA_nil, eT_nm, eT_tup, eT_cons, eT_nil, go_ok, go_exc, go_stuck, gv0, gvS, List.set_cons_zero, List.set_cons_succ, b_add, b_sub, b_mul, b_fdiv, b_mod, b_neg, b_abs, b_lt, b_le, b_gt, b_ge, b_eqI, b_neI, b_max, b_min, asBool_bl, mkTup1, mkTup2, b_idx, ix0, ix1, Bool.false_eq_true, reduceIte, b_isinst, b_len, b_all, b_any, b_tuple, b_list, b_append, b_pop, b_rev, b_int, b_isN, b_isNN, eT_sub, mkL_in, mkL_new, Bool.not_true, Bool.not_false, it_two, it_three, lenL, lenTu, mkLst_nil, mkTup3, isTL, isTT, go_assoc] <;> rfl) ⟨rfl, rfl⟩)
      simp only [eE_call, eA_cons, eA_nil, go_assoc]
      refine Wp.on (comp_range (n := n - r) (g := fun i => (i : Int)) (r := fun i => D.tup (fr r (fun c => q (i + c)))) (src_rg1 (n := n - r) rfl rfl (by omega)) (fun i hi => ?_) (by omega)) ?_
      · have hc : cut (fr n q) (some (i : Int)) (some ((i : Int) + (r : Int))) = fr r (fun c => q (i + c)) := by
          rw [cut_nat (i := i) (n := r) rfl (by omega) (by rw [fr_len]; omega), fr_cut (by omega)]
        simp only [eS_seq, eS_skip, eS_ret, eS_ex, eS_asg, eS_ite, eS_raise, eE_call, eE_bi, eE_var, eE_cst, eE_glo, eE_fnv, eE_tup, eE_lst, eE_and, eE_or, eE_not, eE_ite, eE_mth, eE_chain, eE_sl, intP, slT, eA_cons, eA_nil, eT_nm, eT_tup, eT_cons, eT_nil, go_ok, go_exc, go_stuck, gv0, gvS, List.set_cons_zero, List.set_cons_succ, b_add, b_sub, b_mul, b_fdiv, b_mod, b_neg, b_abs, b_lt, b_le, b_gt, b_ge, b_eqI, b_neI, b_max, b_min, asBool_bl, mkTup1, mkTup2, b_idx, ix0, ix1, Bool.false_eq_true, reduceIte, b_isinst, b_len, b_all, b_any, b_tuple, b_list, b_append, b_pop, b_rev, b_int, b_isN, b_isNN, eT_sub, mkL_in, mkL_new, Bool.not_true, Bool.not_false, it_two, it_three, lenL, lenTu, mkLst_nil, mkTup3, isTL, isTT, go_assoc, hc]
      · have hl : ∀ xs : List D, ∀ st, listV false (.tup xs) st = .ok (.lst xs) st := fun _ _ => rfl
        simp only [eS_seq, eS_skip, eS_ret, eS_ex, eS_asg, eS_ite, eS_raise, eE_call, eE_bi, eE_var, eE_cst, eE_glo, eE_fnv, eE_tup, eE_lst, eE_and, eE_or, eE_not, eE_ite, eE_mth, eE_chain, eE_sl, intP, slT, eA_cons, eA_nil, eT_nm, eT_tup, eT_cons, eT_nil, go_ok, go_exc, go_stuck, gv0, gvS, List.set_cons_zero, List.set_cons_succ, b_add, b_sub, b_mul, b_fdiv, b_mod, b_neg, b_abs, b_lt, b_le, b_gt, b_ge, b_eqI, b_neI, b_max, b_min, asBool_bl, mkTup1, mkTup2, b_idx, ix0, ix1, Bool.false_eq_true, reduceIte, b_isinst, b_len, b_all, b_any, b_tuple, b_list, b_append, b_pop, b_rev, b_int, b_isN, b_isNN, eT_sub, mkL_in, mkL_new, Bool.not_true, Bool.not_false, it_two, it_three, lenL, lenTu, mkLst_nil, mkTup3, isTL, isTT, go_assoc, eE_slTF, hlist, hl]
        exact Wp.of e ⟨rfl, rfl⟩
    rcases hd with ⟨y, rfl, hy, hcd, hev⟩ | ⟨l, rfl, hcd, h0, h1⟩
    · refine wp_seq ((hargs _ _ rfl).mono ?_)
      rintro f st' ⟨rfl, rfl⟩
      refine wp_seq (wp_ret (d := .tup [.str "recursion", .tup (fr r y)]) (st' := st') (by simp only [eS_seq, eS_skip, eS_ret, eS_ex, eS_asg, eS_ite, eS_raise, eE_call, eE_bi, eE_var, eE_cst, eE_glo, eE_fnv, eE_tup, eE_lst, eE_and, eE_or, eE_not, eE_ite, eE_mth, eE_chain, eE_sl, intP, slT, eA_cons, eA_nil, eT_nm, eT_tup, eT_cons, eT_nil, go_ok, go_exc, go_stuck, gv0, gvS, List.set_cons_zero, List.set_cons_succ, b_add, b_sub, b_mul, b_fdiv, b_mod, b_neg, b_abs, b_lt, b_le, b_gt, b_ge, b_eqI, b_neI, b_max, b_min, asBool_bl, mkTup1, mkTup2, b_idx, ix0, ix1, Bool.false_eq_true, reduceIte, b_isinst, b_len, b_all, b_any, b_tuple, b_list, b_append, b_pop, b_rev, b_int, b_isN, b_isNN, eT_sub, mkL_in, mkL_new, Bool.not_true, Bool.not_false, it_two, it_three, lenL, lenTu, mkLst_nil, mkTup3, isTL, isTT, go_assoc] <;> rfl) ?_)
      refine ⟨_, rfl, leave_wp0 rfl ?_ ⟨rfl, Or.inl ⟨y, rfl, hcd, fun i hi => ?_⟩⟩⟩
      · show (true && (belows st'.length (fr r _) && true)) = true
        rw [fr_below]; rfl
      · have := hev i hi
        unfold ev at this
        rw [sumR_succ, hy] at this
        rw [sumR_ext r (g := fun c => q (i + c) * y c) (fun c _ => by grind)]
        grind
    · refine wp_seq ((hargs _ _ rfl).mono ?_)
      rintro f st' ⟨rfl, rfl⟩
      refine wp_seq (wp_ret (d := .tup [.str "against", .tup (fr (n - r) l)]) (st' := st') (by simp only [eS_seq, eS_skip, eS_ret, eS_ex, eS_asg, eS_ite, eS_raise, eE_call, eE_bi, eE_var, eE_cst, eE_glo, eE_fnv, eE_tup, eE_lst, eE_and, eE_or, eE_not, eE_ite, eE_mth, eE_chain, eE_sl, intP, slT, eA_cons, eA_nil, eT_nm, eT_tup, eT_cons, eT_nil, go_ok, go_exc, go_stuck, gv0, gvS, List.set_cons_zero, List.set_cons_succ, b_add, b_sub, b_mul, b_fdiv, b_mod, b_neg, b_abs, b_lt, b_le, b_gt, b_ge, b_eqI, b_neI, b_max, b_min, asBool_bl, mkTup1, mkTup2, b_idx, ix0, ix1, Bool.false_eq_true, reduceIte, b_isinst, b_len, b_all, b_any, b_tuple, b_list, b_append, b_pop, b_rev, b_int, b_isN, b_isNN, eT_sub, mkL_in, mkL_new, Bool.not_true, Bool.not_false, it_two, it_three, lenL, lenTu, mkLst_nil, mkTup3, isTL, isTT, go_assoc] <;> rfl) ?_)
      refine ⟨_, rfl, leave_wp0 rfl ?_ ⟨rfl, Or.inr ⟨l, rfl, hcd, fun c hc => ?_, ?_⟩⟩⟩
      · show (true && (belows st'.length (fr (n - r) _) && true)) = true
        rw [fr_below]; rfl
      · rw [← h0 c hc]
        exact sumR_ext _ fun k _ => by rw [Nat.add_comm]
      · intro e'
        apply h1
        rw [← e']
        exact sumR_ext _ fun k _ => by rw [Nat.add_comm]
end
end K82
set_option Elab.async false
set_option linter.all false
set_option maxRecDepth 100000
set_option maxHeartbeats 1000000
namespace K82
open PySem PC
theorem rsum_ov {z : Int} {X : Nat} : ∀ {qs : List Rat}, (∀ q ∈ qs, Ov z X q) → ∀ n, Ov z (n * X) (rsum (qs.take n)) := fun {qs} hq n => by
  induction n with
  | zero => exact ov_zero
  | succ n ih =>
    rw [List.take_add_one]
    cases hg : qs[n]? with
    | none =>
      show Ov _ _ (rsum (List.take n qs ++ []))
      rw [List.append_nil]
      exact ov_mono ih (Nat.mul_le_mul_right _ (by omega))
    | some q =>
      show Ov _ _ (rsum (List.take n qs ++ [q]))
      rw [rsum_snoc, Nat.add_mul, Nat.one_mul]
      exact ov_add ih (hq q (List.mem_of_getElem? hg))
theorem rdots_len {ps qs : List Rat} : (rdots ps qs).length = min ps.length qs.length := by unfold rdots; rw [List.length_map, List.length_zip]
theorem rdots_ov {zp zq : Int} {X Y : Nat} {ps qs : List Rat} (hp : ∀ p ∈ ps, Ov zp X p) (hq : ∀ q ∈ qs, Ov zq Y q) (h1 : zp ≠ 0) (h2 : zq ≠ 0) : ∀ q ∈ rdots ps qs, Ov (zp * zq) (X * Y) q := fun q hm => by
  obtain ⟨x, hx, rfl⟩ := List.mem_map.mp hm
  obtain ⟨m1, m2⟩ := List.of_mem_zip hx
  exact ov_mul (hp _ m1) (hq _ m2) h1 h2
theorem product_ov_sz {zp zq : Int} {X Y : Nat} {p q : Rat} (hp : Ov zp X p) (hq : Ov zq Y q) (z1 : zp ≠ 0) (z2 : zq ≠ 0) (b1 : zp.natAbs < 2 ^ 2000) (b2 : zq.natAbs < 2 ^ 120) (b3 : X < 2 ^ 4000) (b4 : Y < 2 ^ 120) : Sz (p * q) 4200 := ov_sz (ov_mul hp hq z1 z2) (Int.mul_ne_zero z1 z2) (Nat.lt_of_lt_of_le (mul_lt_pow b3 b4) (pow_le2 (by omega))) (by
  rw [Int.natAbs_mul]
  exact Nat.lt_of_lt_of_le (mul_lt_pow b1 b2) (pow_le2 (by omega)))
/-- what both dots want of their arguments -/
structure DotOk (ps qs : List Rat) : Prop where
  ex : ∃ (zp zq : Int) (X Y : Nat), zp ≠ 0 ∧ zq ≠ 0 ∧ zp.natAbs < 2 ^ 2000 ∧ zq.natAbs < 2 ^ 120 ∧ X < 2 ^ 4000 ∧ Y < 2 ^ 120 ∧ (∀ p ∈ ps, Ov zp X p) ∧ (∀ q ∈ qs, Ov zq Y q)
  len : ps.length ≤ 100
theorem dot_ov {k : Nat} {st : Store} {ps qs : List Rat} (h : DotOk ps qs) : callF tbl (k + 5) 12 [.tup (ps.map encR), .tup (qs.map encR)] st = .ok (encR (rsum (rdots ps qs))) st := by
  obtain ⟨zp, zq, X, Y, z1, z2, b1, b2, b3, b4, hp, hq⟩ := h.ex
  have hl := h.len
  have hlen : (rdots ps qs).length ≤ 100 := by rw [rdots_len]; omega
  refine call_ret (d := d_dot) rfl rfl rfl ?_ rfl
  show evS (callF tbl (k + 4)) b_dot [some (.tup (ps.map encR)), some (.tup (qs.map encR)), none, none] st = _
  have hc : evE (callF tbl (k + 4)) (.comp false (.call 6 (.cons (.var 2) (.cons (.var 3) .nil))) [2, 3] false (.zip (.var 0) (.var 1)) (.cst (.bl true))) [some (.tup (ps.map encR)), some (.tup (qs.map encR)), none, none] st = .ok (.lst ((rdots ps qs).map encR)) st := by
    have hz : evI (callF tbl (k + 4)) (.zip (.var 0) (.var 1)) [some (.tup (ps.map encR)), some (.tup (qs.map encR)), none, none] st = .ok (.items (zipD (ps.map encR) (qs.map encR))) st := rfl
    rw [zipD_enc] at hz
    have hmap : (rdots ps qs).map encR = (ps.zip qs).map fun x => encR (x.1 * x.2) := by
      unfold rdots; rw [List.map_map]; rfl
    rw [hmap]
    refine comp_runM hz (fun x hx => cBody_two ?_) (by rw [List.length_zip]; omega)
    obtain ⟨m1, m2⟩ := List.of_mem_zip hx
    have hc := product_sz (k := k + 1) (st := st) (ov_sz (b := 4000) (hp _ m1) z1 b3 (Nat.lt_of_lt_of_le b1 (pow_le2 (by omega)))) (ov_sz (hq _ m2) z2 b4 b2) (by omega)
    simp only [eS_seq, eS_skip, eS_ret, eS_ex, eS_asg, eS_ite, eS_raise, eE_call, eE_bi, eE_var, eE_cst, eE_glo, eE_fnv, eE_tup, eE_lst, eE_and, eE_or, eE_not, eE_ite, eE_mth, eE_chain, eE_sl, intP, slT, eA_cons, eA_nil, eT_nm, eT_tup, eT_cons, eT_nil, go_ok, go_exc, go_stuck, gv0, gvS, List.set_cons_zero, List.set_cons_succ, b_add, b_sub, b_mul, b_fdiv, b_mod, b_neg, b_abs, b_lt, b_le, b_gt, b_ge, b_eqI, b_neI, b_max, b_min, asBool_bl, mkTup1, mkTup2, b_idx, ix0, ix1, Bool.false_eq_true, reduceIte, hc]
  have hXY : X * Y < 2 ^ 4120 := mul_lt_pow b3 b4
  have ht := total_ov (k := k) (st := st) (b := 4200) (Int.mul_ne_zero z1 z2) (by
      rw [Int.natAbs_mul]
      exact Nat.lt_of_lt_of_le (mul_lt_pow b1 b2) (pow_le2 (by omega))) (rdots_ov hp hq z1 z2) (by
      refine Nat.lt_of_le_of_lt (Nat.mul_le_mul_right _ hlen) ?_
      have : 100 * (X * Y) < 2 ^ 7 * 2 ^ 4120 := Nat.mul_lt_mul'' (by decide) hXY
      rw [← Nat.pow_add] at this
      exact Nat.lt_of_lt_of_le this (pow_le2 (by omega))) (Nat.lt_of_lt_of_le hXY (pow_le2 (by omega))) (by omega)
  simp only [b_dot, eS_seq, eS_skip, eS_ret, eS_ex, eS_asg, eS_ite, eS_raise, eE_call, eE_bi, eE_var, eE_cst, eE_glo, eE_fnv, eE_tup, eE_lst, eE_and, eE_or, eE_not, eE_ite, eE_mth, eE_chain, eE_sl, intP, slT, eA_cons, eA_nil, eT_nm, eT_tup, eT_cons, eT_nil, go_ok, go_exc, go_stuck, gv0, gvS, List.set_cons_zero, List.set_cons_succ, b_add, b_sub, b_mul, b_fdiv, b_mod, b_neg, b_abs, b_lt, b_le, b_gt, b_ge, b_eqI, b_neI, b_max, b_min, asBool_bl, mkTup1, mkTup2, b_idx, ix0, ix1, Bool.false_eq_true, reduceIte, hc, ht]
/-- the law's own -/
theorem ldot_ov {k : Nat} {st : Store} {ps qs : List Rat} (h : DotOk ps qs) (hlq : ps.length ≤ qs.length) {d : D} (hd : seqOf st d = some (qs.map encR)) : callF tbl (k + 3) 33 [.tup (ps.map encR), d] st = .ok (encR (rsum (rdots ps qs))) st := by
  obtain ⟨zp, zq, X, Y, z1, z2, b1, b2, b3, b4, hp, hq⟩ := h.ex
  have hl := h.len
  have hlen : (rdots ps qs).length = ps.length := by rw [rdots_len]; omega
  have hXY : X * Y < 2 ^ 4120 := mul_lt_pow b3 b4
  have hz : (zp * zq).natAbs < 2 ^ 4200 := by
    rw [Int.natAbs_mul]
    exact Nat.lt_of_lt_of_le (mul_lt_pow b1 b2) (pow_le2 (by omega))
  have hX : 100 * (X * Y) < 2 ^ 4200 := by
    have : 100 * (X * Y) < 2 ^ 7 * 2 ^ 4120 := Nat.mul_lt_mul'' (by decide) hXY
    rw [← Nat.pow_add] at this
    exact Nat.lt_of_lt_of_le this (pow_le2 (by omega))
  have hsum := rsum_ov (rdots_ov hp hq z1 z2)
  refine Wp.eq (call_wp (d := d__law_dot) rfl rfl rfl ?_)
  show Wp (evS (callF tbl (k + 2)) b__law_dot [some (.tup (ps.map encR)), some d, none, none] st) _
  unfold b__law_dot
  refine wp_seq (wp_asgP (d := encR 0) (by simp only [eS_seq, eS_skip, eS_ret, eS_ex, eS_asg, eS_ite, eS_raise, eE_call, eE_bi, eE_var, eE_cst, eE_glo, eE_fnv, eE_tup, eE_lst, eE_and, eE_or, eE_not, eE_ite, eE_mth, eE_chain, eE_sl, intP, slT, eA_cons, eA_nil, eT_nm, eT_tup, eT_cons, eT_nil, go_ok, go_exc, go_stuck, gv0, gvS, List.set_cons_zero, List.set_cons_succ, b_add, b_sub, b_mul, b_fdiv, b_mod, b_neg, b_abs, b_lt, b_le, b_gt, b_ge, b_eqI, b_neI, b_max, b_min, asBool_bl, mkTup1, mkTup2, b_idx, ix0, ix1, Bool.false_eq_true, reduceIte, b_isinst, b_len, b_all, b_any, b_tuple, b_list, b_append, b_pop, b_rev, b_int, b_isN, b_isNN, eT_sub, mkL_in, mkL_new, Bool.not_true, Bool.not_false, it_two, it_three, lenL, lenTu, mkLst_nil, mkTup3, isTL, isTT, go_assoc] <;> rfl) ?_)
  refine wp_seq (wp_range (n := ps.length) (g := fun i => (i : Int)) (src_rg1 (n := ps.length) (by simp only [eS_seq, eS_skip, eS_ret, eS_ex, eS_asg, eS_ite, eS_raise, eE_call, eE_bi, eE_var, eE_cst, eE_glo, eE_fnv, eE_tup, eE_lst, eE_and, eE_or, eE_not, eE_ite, eE_mth, eE_chain, eE_sl, intP, slT, eA_cons, eA_nil, eT_nm, eT_tup, eT_cons, eT_nil, go_ok, go_exc, go_stuck, gv0, gvS, List.set_cons_zero, List.set_cons_succ, b_add, b_sub, b_mul, b_fdiv, b_mod, b_neg, b_abs, b_lt, b_le, b_gt, b_ge, b_eqI, b_neI, b_max, b_min, asBool_bl, mkTup1, mkTup2, b_idx, ix0, ix1, Bool.false_eq_true, reduceIte, b_isinst, b_len, b_all, b_any, b_tuple, b_list, b_append, b_pop, b_rev, b_int, b_isN, b_isNN, eT_sub, mkL_in, mkL_new, Bool.not_true, Bool.not_false, it_two, it_three, lenL, lenTu, mkLst_nil, mkTup3, isTL, isTT, go_assoc, List.length_map] <;> rfl) rfl (by omega)) (fun i ρ st' => st' = st ∧ ∃ x3, ρ = [some (.tup (ps.map encR)), some d, some (encR (rsum ((rdots ps qs).take i))), x3]) ?_ ?_ ?_)
  · exact ⟨rfl, _, rfl⟩
  · rintro i hi ρ st' ⟨hst, x3, rfl⟩
    subst hst
    have g1 : ps[i]? = some ps[i] := List.getElem?_eq_getElem hi
    have g2 : qs[i]? = some (qs[i]'(by omega)) := List.getElem?_eq_getElem (by omega)
    have i1 : idxV (.tup (ps.map encR)) (.int (i : Nat)) st' = .ok (encR ps[i]) st' := ix_at (by rw [List.getElem?_map, g1]; rfl)
    have i2 : idxV d (.int (i : Nat)) st' = .ok (encR (qs[i]'(by omega))) st' := ix_seq hd (by rw [List.getElem?_map, g2]; rfl)
    have m1 : ps[i] ∈ ps := List.getElem_mem hi
    have m2 : qs[i]'(by omega) ∈ qs := List.getElem_mem (by omega)
    have hgd : (rdots ps qs)[i]? = some (ps[i] * qs[i]'(by omega)) := by
      unfold rdots
      rw [List.getElem?_map, show (ps.zip qs)[i]? = some (ps[i], qs[i]'(by omega)) from List.getElem?_zip_eq_some.mpr ⟨g1, g2⟩]; rfl
    have ht : (rdots ps qs).take (i + 1) = (rdots ps qs).take i ++ [ps[i] * qs[i]'(by omega)] := by rw [List.take_add_one, hgd]; rfl
    have hx := product_ov_sz (hp _ m1) (hq _ m2) z1 z2 b1 b2 b3 b4
    have h1 := lmul_sz (k := k) (st := st') (ov_sz (b := 4000) (hp _ m1) z1 b3 (Nat.lt_of_lt_of_le b1 (pow_le2 (by omega)))) (ov_sz (hq _ m2) z2 b4 b2) (by omega)
    have h2 := ladd_sz (k := k) (st := st') (ov_sz (b := 4200) (hsum i) (Int.mul_ne_zero z1 z2) (Nat.lt_of_le_of_lt (Nat.mul_le_mul_right _ (by omega)) hX) hz) hx (by omega)
    refine wp_seq (wp_asgP (d := encR (rsum ((rdots ps qs).take i) + ps[i] * qs[i]'(by omega))) (by simp only [eS_seq, eS_skip, eS_ret, eS_ex, eS_asg, eS_ite, eS_raise, eE_call, eE_bi, eE_var, eE_cst, eE_glo, eE_fnv, eE_tup, eE_lst, eE_and, eE_or, eE_not, eE_ite, eE_mth, eE_chain, eE_sl, intP, slT, eA_cons, eA_nil, eT_nm, eT_tup, eT_cons, eT_nil, go_ok, go_exc, go_stuck, gv0, gvS, List.set_cons_zero, List.set_cons_succ, b_add, b_sub, b_mul, b_fdiv, b_mod, b_neg, b_abs, b_lt, b_le, b_gt, b_ge, b_eqI, b_neI, b_max, b_min, asBool_bl, mkTup1, mkTup2, b_idx, ix0, ix1, Bool.false_eq_true, reduceIte, b_isinst, b_len, b_all, b_any, b_tuple, b_list, b_append, b_pop, b_rev, b_int, b_isN, b_isNN, eT_sub, mkL_in, mkL_new, Bool.not_true, Bool.not_false, it_two, it_three, lenL, lenTu, mkLst_nil, mkTup3, isTL, isTT, go_assoc, List.set_cons_zero, i1, i2, h1, h2] <;> rfl) (wp_skip ⟨rfl, some (.int (i : Nat)), ?_⟩))
    rw [ht, rsum_snoc]; rfl
  · rintro ρ st' ⟨hst, x3, rfl⟩
    subst hst
    have e : (rdots ps qs).take ps.length = rdots ps qs := List.take_of_length_le (by omega)
    rw [e]
    exact wp_seq (wp_ret (st' := st') (by simp only [eS_seq, eS_skip, eS_ret, eS_ex, eS_asg, eS_ite, eS_raise, eE_call, eE_bi, eE_var, eE_cst, eE_glo, eE_fnv, eE_tup, eE_lst, eE_and, eE_or, eE_not, eE_ite, eE_mth, eE_chain, eE_sl, intP, slT, eA_cons, eA_nil, eT_nm, eT_tup, eT_cons, eT_nil, go_ok, go_exc, go_stuck, gv0, gvS, List.set_cons_zero, List.set_cons_succ, b_add, b_sub, b_mul, b_fdiv, b_mod, b_neg, b_abs, b_lt, b_le, b_gt, b_ge, b_eqI, b_neI, b_max, b_min, asBool_bl, mkTup1, mkTup2, b_idx, ix0, ix1, Bool.false_eq_true, reduceIte, b_isinst, b_len, b_all, b_any, b_tuple, b_list, b_append, b_pop, b_rev, b_int, b_isN, b_isNN, eT_sub, mkL_in, mkL_new, Bool.not_true, Bool.not_false, it_two, it_three, lenL, lenTu, mkLst_nil, mkTup3, isTL, isTT, go_assoc] <;> rfl) ⟨_, rfl, leave_wp0 rfl rfl ⟨rfl, rfl⟩⟩)
end K82

namespace K82
open PySem PC
def okStr : D → Bool
  | .str x => PyData.strOk x
  | _ => true
/-- an item of a row in a paper, whatever it is -/
def Itm : D → Prop
  | .tup [a, b] => plainD a = true ∧ plainD b = true ∧ ∀ d, b = .int d → Sm d
  | x => plainD x = true
theorem Itm.ask {x : D} (h : Itm x) : RatAsk x := by
  cases x with
  | tup xs =>
    match xs, h with
    | [a, b], h => exact ⟨h.1, h.2.1, fun d e => (h.2.2 d e).tm⟩
    | [], _ => trivial
    | [a], _ => trivial
    | a :: b :: c :: r, _ => trivial
  | ref _ => cases h
  | fn _ => cases h
  | lok _ => cases h
  | _ => trivial
theorem lratio_frac {n d : Int} (hd : 0 < d) : eqv (encR (Rat.divInt n d)) (.tup [.int n, .int d]) = ((Int.gcd n d : Int) == 1) := by
  obtain ⟨f1, f2⟩ := frac_parts (n := n) (d := d) (by omega)
  rw [decide_eq_true hd, if_pos rfl] at f1 f2
  show ((Rat.divInt n d).num == n && (((Rat.divInt n d).den : Int) == d && true)) = _
  rw [← f1, ← f2, Bool.and_true]
  have hg0 : Int.gcd n d ≠ 0 := fun e => by have := (Int.gcd_eq_zero_iff.mp e).2; omega
  have hgd : (Int.gcd n d : Int) ∣ d := Int.gcd_dvd_right ..
  rw [Bool.eq_iff_iff, Bool.and_eq_true, beq_iff_eq, beq_iff_eq, beq_iff_eq]
  constructor
  · rintro ⟨_, h2⟩
    rw [Int.fdiv_eq_ediv_of_nonneg _ (by omega)] at h2
    obtain ⟨c, hc⟩ := hgd
    generalize (Int.gcd n d : Int) = g at *
    have hg : g ≠ 0 := by
      intro e; subst e; simp at hc; omega
    have : d / g = c := by rw [hc]; exact Int.mul_ediv_cancel_left _ hg
    rw [this] at h2
    subst h2
    have : c * (g - 1) = 0 := by rw [Int.mul_sub, Int.mul_one, Int.mul_comm]; omega
    rcases Int.mul_eq_zero.mp this with q | q <;> omega
  · intro e
    rw [e]; simp
theorem lis_ratio_call {k : Nat} {v : D} {st : Store} (h : Itm v) : callF tbl (k + 2) 31 [v] st = .ok (.bl (isRatioD v)) st := by
  have pair : ∀ a b : D, plainD a = true → plainD b = true → (∀ d, b = .int d → Sm d) → callF tbl (k + 2) 31 [.tup [a, b]] st = .ok (.bl (isRatioD (.tup [a, b]))) st := fun a b ha hb hs => by
    have ty : ∀ (x : D) (x0 : Option D), plainD x = true → evE (callF tbl (k + 1)) (.or_ (.not_ (.bi (.isinst [.int]) (.cons (.var 1) .nil))) (.bi (.isinst [.bool]) (.cons (.var 1) .nil))) [x0, some x] st = .ok (.bl (!isInt x)) st := fun x x0 hx => by
      cases x with
      | ref _ => cases hx
      | fn _ => cases hx
      | lok _ => cases hx
      | _ => rfl
    have e2 : ((([a, b] : List D).length : Int) == 2) = true := rfl
    refine Wp.eq (call_wp (d := d__law_is_ratio) rfl rfl rfl ?_)
    show Wp (evS (callF tbl (k + 1)) b__law_is_ratio [some (.tup [a, b]), none] st) _
    unfold b__law_is_ratio
    refine wp_seq (wp_iteF (st' := st) (by simp only [eS_seq, eS_skip, eS_ret, eS_ex, eS_asg, eS_ite, eS_raise, eE_call, eE_bi, eE_var, eE_cst, eE_glo, eE_fnv, eE_tup, eE_lst, eE_and, eE_or, eE_not, eE_ite, eE_mth, eE_chain, eE_sl, intP, slT, eA_cons, eA_nil, eT_nm, eT_tup, eT_cons, eT_nil, go_ok, go_exc, go_stuck, gv0, gvS, List.set_cons_zero, List.set_cons_succ, b_add, b_sub, b_mul, b_fdiv, b_mod, b_neg, b_abs, b_lt, b_le, b_gt, b_ge, b_eqI, b_neI, b_max, b_min, asBool_bl, mkTup1, mkTup2, b_idx, ix0, ix1, Bool.false_eq_true, reduceIte, b_isinst, b_len, b_all, b_any, b_tuple, b_list, b_append, b_pop, b_rev, b_int, b_isN, b_isNN, eT_sub, mkL_in, mkL_new, Bool.not_true, Bool.not_false, it_two, it_three, lenL, lenTu, mkLst_nil, mkTup3, isTL, isTT, go_assoc, e2] <;> rfl) (wp_skip ?_))
    refine wp_seq ((wp_forS (xs := [a, b]) (Q := fun f st' => st' = st ∧ ((f = .rt (.bl false) ∧ (isInt a && isInt b) = false) ∨ ∃ x1, f = .nx [some (.tup [a, b]), x1] ∧ (isInt a && isInt b) = true)) rfl (fun i ρ st' => st' = st ∧ (∃ x1, ρ = [some (.tup [a, b]), x1]) ∧ (1 ≤ i → isInt a = true) ∧ (2 ≤ i → isInt b = true)) ?_ ?_ ?_).mono ?_)
    · exact ⟨rfl, ⟨_, rfl⟩, fun h => by omega, fun h => by omega⟩
    · rintro i x hx ρ st' ⟨hst, ⟨x1, rfl⟩, q1, q2⟩
      subst hst
      have hpx : plainD x = true ∧ (i = 0 ∧ x = a ∨ i = 1 ∧ x = b) := by
        match i, hx with
        | 0, hx => exact ⟨by cases hx; exact ha, .inl ⟨rfl, by cases hx; rfl⟩⟩
        | 1, hx => exact ⟨by cases hx; exact hb, .inr ⟨rfl, by cases hx; rfl⟩⟩
      simp only [eT_tup, it_two, it_three, eT_cons, eT_nm, eT_nil, go_ok, List.set_cons_zero, List.set_cons_succ]
      refine wp_seq (wp_iteB (ty x _ hpx.1) (fun hi => ?_) (fun hi => ?_))
      · refine wp_seq (wp_ret (d := .bl false) (st' := st') (by simp only [eS_seq, eS_skip, eS_ret, eS_ex, eS_asg, eS_ite, eS_raise, eE_call, eE_bi, eE_var, eE_cst, eE_glo, eE_fnv, eE_tup, eE_lst, eE_and, eE_or, eE_not, eE_ite, eE_mth, eE_chain, eE_sl, intP, slT, eA_cons, eA_nil, eT_nm, eT_tup, eT_cons, eT_nil, go_ok, go_exc, go_stuck, gv0, gvS, List.set_cons_zero, List.set_cons_succ, b_add, b_sub, b_mul, b_fdiv, b_mod, b_neg, b_abs, b_lt, b_le, b_gt, b_ge, b_eqI, b_neI, b_max, b_min, asBool_bl, mkTup1, mkTup2, b_idx, ix0, ix1, Bool.false_eq_true, reduceIte, b_isinst, b_len, b_all, b_any, b_tuple, b_list, b_append, b_pop, b_rev, b_int, b_isN, b_isNN, eT_sub, mkL_in, mkL_new, Bool.not_true, Bool.not_false, it_two, it_three, lenL, lenTu, mkLst_nil, mkTup3, isTL, isTT, go_assoc] <;> rfl) ⟨rfl, .inl ⟨rfl, ?_⟩⟩)
        rcases hpx.2 with ⟨_, rfl⟩ | ⟨_, rfl⟩
        · have : isInt x = false := by simpa using hi
          rw [this]; rfl
        · have : isInt x = false := by simpa using hi
          rw [this, Bool.and_false]
      · have hi' : isInt x = true := by simpa using hi
        refine wp_skip (wp_skip ⟨rfl, ⟨_, rfl⟩, fun _ => ?_, fun _ => ?_⟩)
        · rcases hpx.2 with ⟨_, rfl⟩ | ⟨e, rfl⟩
          · exact hi'
          · exact q1 (by omega)
        · rcases hpx.2 with ⟨e, rfl⟩ | ⟨_, rfl⟩
          · omega
          · exact hi'
    · rintro ρ st' ⟨hst, ⟨x1, rfl⟩, q1, q2⟩
      exact ⟨hst, .inr ⟨x1, rfl, by rw [q1 (by simp), q2 (by simp)]; rfl⟩⟩
    · rintro f st' ⟨hst, ⟨rfl, hf⟩ | ⟨x1, rfl, hf⟩⟩
      · subst hst
        have e3 : isRatioD (.tup [a, b]) = false := by cases a <;> cases b <;> first | rfl | cases hf
        rw [e3]
        exact ⟨_, rfl, leave_wp0 rfl rfl ⟨rfl, rfl⟩⟩
      · subst hst
        cases a with
        | int n =>
          cases b with
          | int d =>
            refine wp_seq (wp_ret (d := .bl (decide (0 < d) && ((Int.gcd n d : Int) == 1))) (st' := st') ?_ ⟨_, rfl, leave_wp0 rfl rfl ⟨rfl, rfl⟩⟩)
            by_cases hd : 0 < d
            · have hf := law_frac_call (k := k) (n := n) (d := d) (st := st') (by omega) (hs d rfl)
              have he : biV .eq [encR (Rat.divInt n d), .tup [.int n, .int d]] st' = .ok (.bl ((Int.gcd n d : Int) == 1)) st' := by
                show (if okD 60 (encR (Rat.divInt n d)) && okD 60 (.tup [.int n, .int d]) then Res.ok (D.bl (eqv (encR (Rat.divInt n d)) (.tup [.int n, .int d]))) st' else .stuck) = _
                rw [lratio_frac hd]; rfl
              have hd' : decide (0 < d) = true := decide_eq_true hd
              simp only [eS_seq, eS_skip, eS_ret, eS_ex, eS_asg, eS_ite, eS_raise, eE_call, eE_bi, eE_var, eE_cst, eE_glo, eE_fnv, eE_tup, eE_lst, eE_and, eE_or, eE_not, eE_ite, eE_mth, eE_chain, eE_sl, intP, slT, eA_cons, eA_nil, eT_nm, eT_tup, eT_cons, eT_nil, go_ok, go_exc, go_stuck, gv0, gvS, List.set_cons_zero, List.set_cons_succ, b_add, b_sub, b_mul, b_fdiv, b_mod, b_neg, b_abs, b_lt, b_le, b_gt, b_ge, b_eqI, b_neI, b_max, b_min, asBool_bl, mkTup1, mkTup2, b_idx, ix0, ix1, Bool.false_eq_true, reduceIte, b_isinst, b_len, b_all, b_any, b_tuple, b_list, b_append, b_pop, b_rev, b_int, b_isN, b_isNN, eT_sub, mkL_in, mkL_new, Bool.not_true, Bool.not_false, it_two, it_three, lenL, lenTu, mkLst_nil, mkTup3, isTL, isTT, go_assoc, hd', hf, he, Bool.true_and]
            · have hd' : decide (0 < d) = false := decide_eq_false hd
              simp only [eS_seq, eS_skip, eS_ret, eS_ex, eS_asg, eS_ite, eS_raise, eE_call, eE_bi, eE_var, eE_cst, eE_glo, eE_fnv, eE_tup, eE_lst, eE_and, eE_or, eE_not, eE_ite, eE_mth, eE_chain, eE_sl, intP, slT, eA_cons, eA_nil, eT_nm, eT_tup, eT_cons, eT_nil, go_ok, go_exc, go_stuck, gv0, gvS, List.set_cons_zero, List.set_cons_succ, b_add, b_sub, b_mul, b_fdiv, b_mod, b_neg, b_abs, b_lt, b_le, b_gt, b_ge, b_eqI, b_neI, b_max, b_min, asBool_bl, mkTup1, mkTup2, b_idx, ix0, ix1, Bool.false_eq_true, reduceIte, b_isinst, b_len, b_all, b_any, b_tuple, b_list, b_append, b_pop, b_rev, b_int, b_isN, b_isNN, eT_sub, mkL_in, mkL_new, Bool.not_true, Bool.not_false, it_two, it_three, lenL, lenTu, mkLst_nil, mkTup3, isTL, isTT, go_assoc, hd', Bool.false_and]
          | _ => cases hf
        | _ => cases hf
  cases v with
  | tup xs =>
    match xs, h with
    | [a, b], h => exact pair a b h.1 h.2.1 h.2.2
    | [], _ => exact call_ret (d := d__law_is_ratio) rfl rfl rfl rfl rfl
    | [a], _ =>
      have e3 : isRatioD (.tup [a]) = false := by cases a <;> rfl
      rw [e3]
      exact call_ret (d := d__law_is_ratio) rfl rfl rfl rfl rfl
    | a :: b :: c :: r, _ =>
      have e3 : isRatioD (.tup (a :: b :: c :: r)) = false := by cases a <;> first | rfl | (cases b <;> rfl)
      rw [e3]
      refine call_ret (d := d__law_is_ratio) rfl rfl rfl ?_ rfl
      show evS (callF tbl (k + 1)) b__law_is_ratio [some (.tup (a :: b :: c :: r)), none] st = _
      have e2 : ((((a :: b :: c :: r : List D)).length : Int) == 2) = false := by
        have : ¬ (((a :: b :: c :: r : List D)).length : Int) = 2 := by simp; omega
        simpa using this
      simp only [b__law_is_ratio, eS_seq, eS_skip, eS_ret, eS_ex, eS_asg, eS_ite, eS_raise, eE_call, eE_bi, eE_var, eE_cst, eE_glo, eE_fnv, eE_tup, eE_lst, eE_and, eE_or, eE_not, eE_ite, eE_mth, eE_chain, eE_sl, intP, slT, eA_cons, eA_nil, eT_nm, eT_tup, eT_cons, eT_nil, go_ok, go_exc, go_stuck, gv0, gvS, List.set_cons_zero, List.set_cons_succ, b_add, b_sub, b_mul, b_fdiv, b_mod, b_neg, b_abs, b_lt, b_le, b_gt, b_ge, b_eqI, b_neI, b_max, b_min, asBool_bl, mkTup1, mkTup2, b_idx, ix0, ix1, Bool.false_eq_true, reduceIte, b_isinst, b_len, b_all, b_any, b_tuple, b_list, b_append, b_pop, b_rev, b_int, b_isN, b_isNN, eT_sub, mkL_in, mkL_new, Bool.not_true, Bool.not_false, it_two, it_three, lenL, lenTu, mkLst_nil, mkTup3, isTL, isTT, go_assoc, e2]
  | ref _ => cases h
  | fn _ => cases h
  | lok _ => cases h
  | _ => exact call_ret (d := d__law_is_ratio) rfl rfl rfl rfl rfl
/-- so many fractions -/
def isRow (m : Nat) : D → Bool
  | .tup xs => decide (xs.length = m) && xs.all isRatioD
  | _ => false
/-- the row of a paper -/
def RowAsk (v : D) : Prop := plainD v = true ∧ ∀ xs, v = .tup xs → xs.length ≤ 100 ∧ ∀ x ∈ xs, Itm x
theorem len_dec {n m : Nat} : ((n : Int) == (m : Int)) = decide (n = m) := by
  rw [Bool.eq_iff_iff, beq_iff_eq, decide_eq_true_eq]; omega
theorem is_row_any {k m : Nat} {v : D} {st : Store} (h : RowAsk v) : callF tbl (k + 3) 10 [v, .int (m : Nat)] st = .ok (.bl (isRow m v)) st := by
  cases v with
  | tup xs =>
    obtain ⟨h1, h2⟩ := h.2 xs rfl
    have := is_row_call (k := k) (xs := xs) (m := (m : Nat)) (st := st) (fun x hx => (h2 x hx).ask) (by omega)
    rw [len_dec] at this
    exact this
  | ref _ => cases h.1
  | fn _ => cases h.1
  | lok _ => cases h.1
  | _ => exact call_ret (d := d_is_row) rfl rfl rfl rfl rfl
theorem lis_row_any {k m : Nat} {v : D} {st : Store} (h : RowAsk v) : callF tbl (k + 3) 32 [v, .int (m : Nat)] st = .ok (.bl (isRow m v)) st := by
  cases v with
  | tup xs =>
    obtain ⟨h1, h2⟩ := h.2 xs rfl
    refine call_ret (d := d__law_is_ratios) rfl rfl rfl ?_ rfl
    show evS (callF tbl (k + 2)) b__law_is_ratios [some (.tup xs), some (.int (m : Nat)), none] st = _
    have hc : evE (callF tbl (k + 2)) (.comp false (.call 31 (.cons (.var 2) .nil)) [2] true (.sq (.var 0)) (.cst (.bl true))) [some (.tup xs), some (.int (m : Nat)), none] st = .ok (.lst (xs.map fun x => D.bl (isRatioD x))) st := by
      rw [← filterMap_some]
      refine comp_run (xs := xs) rfl (fun x hx => cBody_one ?_) (by rw [filterMap_some, List.length_map]; omega)
      simp only [eS_seq, eS_skip, eS_ret, eS_ex, eS_asg, eS_ite, eS_raise, eE_call, eE_bi, eE_var, eE_cst, eE_glo, eE_fnv, eE_tup, eE_lst, eE_and, eE_or, eE_not, eE_ite, eE_mth, eE_chain, eE_sl, intP, slT, eA_cons, eA_nil, eT_nm, eT_tup, eT_cons, eT_nil, go_ok, go_exc, go_stuck, gv0, gvS, List.set_cons_zero, List.set_cons_succ, b_add, b_sub, b_mul, b_fdiv, b_mod, b_neg, b_abs, b_lt, b_le, b_gt, b_ge, b_eqI, b_neI, b_max, b_min, asBool_bl, mkTup1, mkTup2, b_idx, ix0, ix1, Bool.false_eq_true, reduceIte, lis_ratio_call (k := k) (h2 x hx)]
    simp only [b__law_is_ratios, eS_seq, eS_skip, eS_ret, eS_ex, eS_asg, eS_ite, eS_raise, eE_call, eE_bi, eE_var, eE_cst, eE_glo, eE_fnv, eE_tup, eE_lst, eE_and, eE_or, eE_not, eE_ite, eE_mth, eE_chain, eE_sl, intP, slT, eA_cons, eA_nil, eT_nm, eT_tup, eT_cons, eT_nil, go_ok, go_exc, go_stuck, gv0, gvS, List.set_cons_zero, List.set_cons_succ, b_add, b_sub, b_mul, b_fdiv, b_mod, b_neg, b_abs, b_lt, b_le, b_gt, b_ge, b_eqI, b_neI, b_max, b_min, asBool_bl, mkTup1, mkTup2, b_idx, ix0, ix1, Bool.false_eq_true, reduceIte, b_isinst, b_len, b_all, b_any, b_tuple, b_list, b_append, b_pop, b_rev, b_int, b_isN, b_isNN, eT_sub, mkL_in, mkL_new, Bool.not_true, Bool.not_false, it_two, it_three, lenL, lenTu, mkLst_nil, mkTup3, isTL, isTT, go_assoc, isT, hc, allV_map, len_dec]
    show _ = Res.ok (Fl.rt (.bl (decide (xs.length = m) && xs.all isRatioD))) st
    cases decide (xs.length = m) <;> rfl
  | ref _ => cases h.1
  | fn _ => cases h.1
  | lok _ => cases h.1
  | _ => exact call_ret (d := d__law_is_ratios) rfl rfl rfl rfl rfl
end K82

namespace K82
open PySem PC
def slc (q : Nat → Rat) (i m : Nat) : List Rat := (List.range m).map fun c => q (i + c)
def recH (n r : Nat) (q : Nat → Rat) (ps : List Rat) : Bool := (List.range (n - r)).all fun i => decide (rsum (rdots ps (slc q i r)) = q (i + r))
def agH (n r : Nat) (q : Nat → Rat) (ps : List Rat) : Bool := !((List.range r).any fun j => !decide (rsum (rdots ps (slc q j (n - r))) = 0)) && !decide (rsum (rdots ps (slc q r (n - r))) = 0)
def rowOf : D → List Rat
  | .tup xs => xs.map decR
  | _ => []
def holdsD (n r : Nat) (q : Nat → Rat) : D → Bool
  | .tup [.str w, p] => if w == "recursion" then isRow r p && recH n r q (rowOf p) else if w == "against" then isRow (n - r) p && agH n r q (rowOf p) else false
  | _ => false
def PapOk (p : D) : Prop := plainD p = true ∧ ∀ a b, p = .tup [a, b] → plainD a = true ∧ okStr a = true ∧ RowAsk b ∧ ∀ xs, b = .tup xs → xs.all isRatioD = true → ∃ (z : Int) (X : Nat), z ≠ 0 ∧ z.natAbs < 2 ^ 2000 ∧ X < 2 ^ 4000 ∧ ∀ x ∈ xs, Ov z X (decR x)
section
variable {n B r : Nat} {R : Int} {q : Nat → Rat}
theorem slc_fr {i m : Nat} : (slc q i m).map encR = fr m (fun c => q (i + c)) := by unfold slc fr; rw [List.map_map]; rfl
theorem slc_len {i m : Nat} : (slc q i m).length = m := by unfold slc; rw [List.length_map, List.length_range]
theorem dot_good (h : Row n B R q) {xs : List D} {i m : Nat} (him : i + m ≤ n) (hl : xs.length ≤ 100) (he : ∃ (z : Int) (X : Nat), z ≠ 0 ∧ z.natAbs < 2 ^ 2000 ∧ X < 2 ^ 4000 ∧ ∀ x ∈ xs, Ov z X (decR x)) : DotOk (xs.map decR) (slc q i m) := by
  obtain ⟨z, X, z0, zb, xb, hx⟩ := he
  refine ⟨⟨z, R, X, B, z0, h.R0, zb, Nat.lt_of_le_of_lt h.RB h.B120, xb, h.B120, fun p hp => ?_, fun p hp => ?_⟩, by rw [List.length_map]; exact hl⟩
  · obtain ⟨x, hm, rfl⟩ := List.mem_map.mp hp
    exact hx x hm
  · obtain ⟨c, hc, rfl⟩ := List.mem_map.mp hp
    exact h.ov _ (by have := List.mem_range.mp hc; omega)
theorem row_cut {i m : Nat} (him : i + m ≤ n) : cut (fr n q) (some (i : Int)) (some ((i : Int) + (m : Int))) = (slc q i m).map encR := by
  rw [cut_nat (i := i) (n := m) rfl (by omega) (by rw [fr_len]; omega), fr_cut him, slc_fr]
theorem takes_call {k : Nat} {st : Store} {p : D} (h : Row n B R q) (hr : r ≤ 20) (hp : PapOk p) : callF tbl (k + 7) 13 [.tup (fr n q), .int (r : Nat), p] st = .ok (.bl (holdsD n r q p)) st := by
  have hn := h.n40
  refine Wp.eq (call_wp (d := d_takes_recursion) rfl rfl rfl ?_)
  show Wp (evS (callF tbl (k + 6)) b_takes_recursion [some (.tup (fr n q)), some (.int (r : Nat)), some p, none, none, none] st) _
  unfold b_takes_recursion
  have hch := check_row (k := k + 3) (st := st) h hr
  have hmax : max2 ((n : Int) - (r : Int)) 0 = ((n - r : Nat) : Int) := by unfold max2; split <;> omega
  refine wp_seq (wp_ex (d := .non) (st' := st) (by simp only [eS_seq, eS_skip, eS_ret, eS_ex, eS_asg, eS_ite, eS_raise, eE_call, eE_bi, eE_var, eE_cst, eE_glo, eE_fnv, eE_tup, eE_lst, eE_and, eE_or, eE_not, eE_ite, eE_mth, eE_chain, eE_sl, intP, slT, eA_cons, eA_nil, eT_nm, eT_tup, eT_cons, eT_nil, go_ok, go_exc, go_stuck, gv0, gvS, List.set_cons_zero, List.set_cons_succ, b_add, b_sub, b_mul, b_fdiv, b_mod, b_neg, b_abs, b_lt, b_le, b_gt, b_ge, b_eqI, b_neI, b_max, b_min, asBool_bl, mkTup1, mkTup2, b_idx, ix0, ix1, Bool.false_eq_true, reduceIte, b_isinst, b_len, b_all, b_any, b_tuple, b_list, b_append, b_pop, b_rev, b_int, b_isN, b_isNN, eT_sub, mkL_in, mkL_new, Bool.not_true, Bool.not_false, it_two, it_three, lenL, lenTu, mkLst_nil, mkTup3, isTL, isTT, go_assoc, hch] <;> rfl) ?_)
  refine wp_seq (wp_asgP (d := .int ((n - r : Nat) : Int)) (by simp only [eS_seq, eS_skip, eS_ret, eS_ex, eS_asg, eS_ite, eS_raise, eE_call, eE_bi, eE_var, eE_cst, eE_glo, eE_fnv, eE_tup, eE_lst, eE_and, eE_or, eE_not, eE_ite, eE_mth, eE_chain, eE_sl, intP, slT, eA_cons, eA_nil, eT_nm, eT_tup, eT_cons, eT_nil, go_ok, go_exc, go_stuck, gv0, gvS, List.set_cons_zero, List.set_cons_succ, b_add, b_sub, b_mul, b_fdiv, b_mod, b_neg, b_abs, b_lt, b_le, b_gt, b_ge, b_eqI, b_neI, b_max, b_min, asBool_bl, mkTup1, mkTup2, b_idx, ix0, ix1, Bool.false_eq_true, reduceIte, b_isinst, b_len, b_all, b_any, b_tuple, b_list, b_append, b_pop, b_rev, b_int, b_isN, b_isNN, eT_sub, mkL_in, mkL_new, Bool.not_true, Bool.not_false, it_two, it_three, lenL, lenTu, mkLst_nil, mkTup3, isTL, isTT, go_assoc, fr_len, hmax] <;> rfl) ?_)
  by_cases hform : ∃ w b, p = .tup [.str w, b]
  · obtain ⟨w, b, rfl⟩ := hform
    obtain ⟨_, hw, hb, hx⟩ := hp.2 _ _ rfl
    have f1 := has_form_two (k := k + 5) (a := .str w) (b := b) (w := "recursion") (st := st) (by decide +kernel) rfl (fun x e => by cases e; exact hw)
    have f2 := has_form_two (k := k + 5) (a := .str w) (b := b) (w := "against") (st := st) (by decide +kernel) rfl (fun x e => by cases e; exact hw)
    have f1' : callF tbl (k + 6) 8 [.tup [.str w, b], .str "recursion", .int 2] st = .ok (.bl (w == "recursion")) st := f1
    have f2' : callF tbl (k + 6) 8 [.tup [.str w, b], .str "against", .int 2] st = .ok (.bl (w == "against")) st := f2
    refine wp_seq (wp_iteB (x := w == "recursion") (st' := st) (by simp only [eS_seq, eS_skip, eS_ret, eS_ex, eS_asg, eS_ite, eS_raise, eE_call, eE_bi, eE_var, eE_cst, eE_glo, eE_fnv, eE_tup, eE_lst, eE_and, eE_or, eE_not, eE_ite, eE_mth, eE_chain, eE_sl, intP, slT, eA_cons, eA_nil, eT_nm, eT_tup, eT_cons, eT_nil, go_ok, go_exc, go_stuck, gv0, gvS, List.set_cons_zero, List.set_cons_succ, b_add, b_sub, b_mul, b_fdiv, b_mod, b_neg, b_abs, b_lt, b_le, b_gt, b_ge, b_eqI, b_neI, b_max, b_min, asBool_bl, mkTup1, mkTup2, b_idx, ix0, ix1, Bool.false_eq_true, reduceIte, b_isinst, b_len, b_all, b_any, b_tuple, b_list, b_append, b_pop, b_rev, b_int, b_isN, b_isNN, eT_sub, mkL_in, mkL_new, Bool.not_true, Bool.not_false, it_two, it_three, lenL, lenTu, mkLst_nil, mkTup3, isTL, isTT, go_assoc, f1'] <;> rfl) (fun hw1 => ?_) (fun hw1 => ?_))
    · have hrow := is_row_any (k := k + 3) (m := r) (st := st) hb
      have hres : holdsD n r q (.tup [.str w, b]) = (isRow r b && recH n r q (rowOf b)) := by
        show (if w == "recursion" then _ else _) = _
        rw [hw1]; rfl
      rw [hres]
      cases hir : isRow r b with
      | false =>
        rw [hir] at hrow
        exact wp_seq (wp_ret (st' := st) (by simp only [eS_seq, eS_skip, eS_ret, eS_ex, eS_asg, eS_ite, eS_raise, eE_call, eE_bi, eE_var, eE_cst, eE_glo, eE_fnv, eE_tup, eE_lst, eE_and, eE_or, eE_not, eE_ite, eE_mth, eE_chain, eE_sl, intP, slT, eA_cons, eA_nil, eT_nm, eT_tup, eT_cons, eT_nil, go_ok, go_exc, go_stuck, gv0, gvS, List.set_cons_zero, List.set_cons_succ, b_add, b_sub, b_mul, b_fdiv, b_mod, b_neg, b_abs, b_lt, b_le, b_gt, b_ge, b_eqI, b_neI, b_max, b_min, asBool_bl, mkTup1, mkTup2, b_idx, ix0, ix1, Bool.false_eq_true, reduceIte, b_isinst, b_len, b_all, b_any, b_tuple, b_list, b_append, b_pop, b_rev, b_int, b_isN, b_isNN, eT_sub, mkL_in, mkL_new, Bool.not_true, Bool.not_false, it_two, it_three, lenL, lenTu, mkLst_nil, mkTup3, isTL, isTT, go_assoc, hrow] <;> rfl) ⟨_, rfl, leave_wp0 rfl rfl ⟨rfl, rfl⟩⟩)
      | true =>
        rw [hir] at hrow
        cases b with
        | tup xs =>
          have hir' : (decide (xs.length = r) && xs.all isRatioD) = true := hir
          rw [Bool.and_eq_true] at hir'
          have hgood := hx xs rfl hir'.2
          have hlen : xs.length = r := of_decide_eq_true hir'.1
          refine wp_seq (wp_ret (d := .bl (true && recH n r q (xs.map decR))) (st' := st) (Wp.eq ?_) ⟨_, rfl, leave_wp0 rfl rfl ⟨rfl, rfl⟩⟩)
          simp only [eS_seq, eS_skip, eS_ret, eS_ex, eS_asg, eS_ite, eS_raise, eE_call, eE_bi, eE_var, eE_cst, eE_glo, eE_fnv, eE_tup, eE_lst, eE_and, eE_or, eE_not, eE_ite, eE_mth, eE_chain, eE_sl, intP, slT, eA_cons, eA_nil, eT_nm, eT_tup, eT_cons, eT_nil, go_ok, go_exc, go_stuck, gv0, gvS, List.set_cons_zero, List.set_cons_succ, b_add, b_sub, b_mul, b_fdiv, b_mod, b_neg, b_abs, b_lt, b_le, b_gt, b_ge, b_eqI, b_neI, b_max, b_min, asBool_bl, mkTup1, mkTup2, b_idx, ix0, ix1, Bool.false_eq_true, reduceIte, b_isinst, b_len, b_all, b_any, b_tuple, b_list, b_append, b_pop, b_rev, b_int, b_isN, b_isNN, eT_sub, mkL_in, mkL_new, Bool.not_true, Bool.not_false, it_two, it_three, lenL, lenTu, mkLst_nil, mkTup3, isTL, isTT, go_assoc, hrow]
          refine Wp.on (comp_range (n := n - r) (g := fun i => (i : Int)) (r := fun i => .bl (decide (rsum (rdots (xs.map decR) (slc q i r)) = q (i + r)))) (src_rg1 (n := n - r) rfl rfl (by omega)) (fun i hi => ?_) (by omega)) ?_
          · have hd := dot_ov (k := k + 1) (st := st) (dot_good h (i := i) (m := r) (by omega) (by omega) hgood)
            rw [encs_of hir'.2] at hd
            have hc := row_cut (q := q) (show i + r ≤ n by omega)
            have hi2 : idxV (.tup (fr n q)) (.int ((i : Int) + (r : Int))) st = .ok (encR (q (i + r))) st := by
              rw [← Int.natCast_add]
              exact ix_at (fr_get (by omega))
            simp only [eS_seq, eS_skip, eS_ret, eS_ex, eS_asg, eS_ite, eS_raise, eE_call, eE_bi, eE_var, eE_cst, eE_glo, eE_fnv, eE_tup, eE_lst, eE_and, eE_or, eE_not, eE_ite, eE_mth, eE_chain, eE_sl, intP, slT, eA_cons, eA_nil, eT_nm, eT_tup, eT_cons, eT_nil, go_ok, go_exc, go_stuck, gv0, gvS, List.set_cons_zero, List.set_cons_succ, b_add, b_sub, b_mul, b_fdiv, b_mod, b_neg, b_abs, b_lt, b_le, b_gt, b_ge, b_eqI, b_neI, b_max, b_min, asBool_bl, mkTup1, mkTup2, b_idx, ix0, ix1, Bool.false_eq_true, reduceIte, b_isinst, b_len, b_all, b_any, b_tuple, b_list, b_append, b_pop, b_rev, b_int, b_isN, b_isNN, eT_sub, mkL_in, mkL_new, Bool.not_true, Bool.not_false, it_two, it_three, lenL, lenTu, mkLst_nil, mkTup3, isTL, isTT, go_assoc, hc, hd, hi2, b_eqR]
          · rw [allV_mapI]
            exact Wp.ok ⟨by rw [Bool.true_and]; rfl, rfl⟩
        | _ => cases hir
    · refine wp_skip ?_
      by_cases hw2 : (w == "against") = true
      · have hrow := is_row_any (k := k + 3) (m := n - r) (st := st) hb
        have hres : holdsD n r q (.tup [.str w, b]) = (isRow (n - r) b && agH n r q (rowOf b)) := by
          show (if w == "recursion" then _ else if w == "against" then _ else _) = _
          rw [hw1, hw2]; rfl
        rw [hw2] at f2'
        rw [hres]
        cases hir : isRow (n - r) b with
        | false =>
          rw [hir] at hrow
          refine wp_seq (wp_iteT (st' := st) (by simp only [eS_seq, eS_skip, eS_ret, eS_ex, eS_asg, eS_ite, eS_raise, eE_call, eE_bi, eE_var, eE_cst, eE_glo, eE_fnv, eE_tup, eE_lst, eE_and, eE_or, eE_not, eE_ite, eE_mth, eE_chain, eE_sl, intP, slT, eA_cons, eA_nil, eT_nm, eT_tup, eT_cons, eT_nil, go_ok, go_exc, go_stuck, gv0, gvS, List.set_cons_zero, List.set_cons_succ, b_add, b_sub, b_mul, b_fdiv, b_mod, b_neg, b_abs, b_lt, b_le, b_gt, b_ge, b_eqI, b_neI, b_max, b_min, asBool_bl, mkTup1, mkTup2, b_idx, ix0, ix1, Bool.false_eq_true, reduceIte, b_isinst, b_len, b_all, b_any, b_tuple, b_list, b_append, b_pop, b_rev, b_int, b_isN, b_isNN, eT_sub, mkL_in, mkL_new, Bool.not_true, Bool.not_false, it_two, it_three, lenL, lenTu, mkLst_nil, mkTup3, isTL, isTT, go_assoc, f2', hrow] <;> rfl) (wp_seq (wp_ret (st' := st) (by simp only [eS_seq, eS_skip, eS_ret, eS_ex, eS_asg, eS_ite, eS_raise, eE_call, eE_bi, eE_var, eE_cst, eE_glo, eE_fnv, eE_tup, eE_lst, eE_and, eE_or, eE_not, eE_ite, eE_mth, eE_chain, eE_sl, intP, slT, eA_cons, eA_nil, eT_nm, eT_tup, eT_cons, eT_nil, go_ok, go_exc, go_stuck, gv0, gvS, List.set_cons_zero, List.set_cons_succ, b_add, b_sub, b_mul, b_fdiv, b_mod, b_neg, b_abs, b_lt, b_le, b_gt, b_ge, b_eqI, b_neI, b_max, b_min, asBool_bl, mkTup1, mkTup2, b_idx, ix0, ix1, Bool.false_eq_true, reduceIte, b_isinst, b_len, b_all, b_any, b_tuple, b_list, b_append, b_pop, b_rev, b_int, b_isN, b_isNN, eT_sub, mkL_in, mkL_new, Bool.not_true, Bool.not_false, it_two, it_three, lenL, lenTu, mkLst_nil, mkTup3, isTL, isTT, go_assoc] <;> rfl) ⟨_, rfl, leave_wp0 rfl rfl ⟨rfl, rfl⟩⟩)))
        | true =>
          rw [hir] at hrow
          cases b with
          | tup xs =>
            have hir' : (decide (xs.length = n - r) && xs.all isRatioD) = true := hir
            rw [Bool.and_eq_true] at hir'
            have hgood := hx xs rfl hir'.2
            have hlen : xs.length = n - r := of_decide_eq_true hir'.1
            refine wp_seq (wp_iteF (st' := st) (by simp only [eS_seq, eS_skip, eS_ret, eS_ex, eS_asg, eS_ite, eS_raise, eE_call, eE_bi, eE_var, eE_cst, eE_glo, eE_fnv, eE_tup, eE_lst, eE_and, eE_or, eE_not, eE_ite, eE_mth, eE_chain, eE_sl, intP, slT, eA_cons, eA_nil, eT_nm, eT_tup, eT_cons, eT_nil, go_ok, go_exc, go_stuck, gv0, gvS, List.set_cons_zero, List.set_cons_succ, b_add, b_sub, b_mul, b_fdiv, b_mod, b_neg, b_abs, b_lt, b_le, b_gt, b_ge, b_eqI, b_neI, b_max, b_min, asBool_bl, mkTup1, mkTup2, b_idx, ix0, ix1, Bool.false_eq_true, reduceIte, b_isinst, b_len, b_all, b_any, b_tuple, b_list, b_append, b_pop, b_rev, b_int, b_isN, b_isNN, eT_sub, mkL_in, mkL_new, Bool.not_true, Bool.not_false, it_two, it_three, lenL, lenTu, mkLst_nil, mkTup3, isTL, isTT, go_assoc, f2', hrow] <;> rfl) (wp_skip ?_))
            have hdot : ∀ j, j ≤ r → r ≤ n → callF tbl (k + 6) 12 [.tup xs, .tup ((slc q j (n - r)).map encR)] st = .ok (encR (rsum (rdots (xs.map decR) (slc q j (n - r))))) st := fun j hj hrn => by
              have hd := dot_ov (k := k + 1) (st := st) (dot_good h (i := j) (m := n - r) (by omega) (by omega) hgood)
              rwa [encs_of hir'.2] at hd
            have hcutG : ∀ j, j ≤ r → cut (fr n q) (some (j : Int)) (some ((j : Int) + ((n - r : Nat) : Int))) = (if r ≤ n then (slc q j (n - r)).map encR else (fr n q).drop (min j n) |>.take (min j n - min j n)) := fun j hj => by
              by_cases hrn : r ≤ n
              · rw [if_pos hrn]; exact row_cut (by omega)
              · rw [if_neg hrn]
                have e0 : n - r = 0 := by omega
                rw [e0]
                unfold cut HT.sIx
                have e1 : ¬ ((j : Int) < 0) := by omega
                simp only [Int.natCast_zero, Int.add_zero, e1, if_false, Int.toNat_natCast, fr_len]
            have hnilcut : ¬ r ≤ n → ∀ j, j ≤ r → cut (fr n q) (some (j : Int)) (some ((j : Int) + ((n - r : Nat) : Int))) = (slc q j (n - r)).map encR := fun hrn j hj => by
              rw [hcutG j hj, if_neg hrn, Nat.sub_self, List.take_zero]
              have e0 : n - r = 0 := by omega
              rw [e0]; rfl
            have hcut : ∀ j, j ≤ r → cut (fr n q) (some (j : Int)) (some ((j : Int) + ((n - r : Nat) : Int))) = (slc q j (n - r)).map encR := fun j hj => by
              by_cases hrn : r ≤ n
              · rw [hcutG j hj, if_pos hrn]
              · exact hnilcut hrn j hj
            have hdot' : ∀ j, j ≤ r → callF tbl (k + 6) 12 [.tup xs, .tup ((slc q j (n - r)).map encR)] st = .ok (encR (rsum (rdots (xs.map decR) (slc q j (n - r))))) st := fun j hj => by
              by_cases hrn : r ≤ n
              · exact hdot j hj hrn
              · have e0 : n - r = 0 := by omega
                have hxs : xs = [] := List.eq_nil_of_length_eq_zero (by omega)
                subst hxs
                have hd := dot_ov (k := k + 1) (st := st) (ps := []) (qs := slc q j (n - r)) ⟨⟨1, 1, 1, 1, by decide, by decide, Nat.one_lt_two_pow (by decide), Nat.one_lt_two_pow (by decide), Nat.one_lt_two_pow (by decide), Nat.one_lt_two_pow (by decide), (fun p hp => nomatch hp), fun p hp => by rw [e0] at hp; exact nomatch hp⟩, Nat.zero_le _⟩
                exact hd
            have hz : ∀ (x : Rat), biV .ne [.int x.num, .int 0] st = .ok (.bl (!decide (x = 0))) st := fun x => by rw [b_neI, enc_num0]
            have he0 : ∀ (x : Rat), idxV (encR x) (.int 0) st = .ok (.int x.num) st := fun x => ix0
            refine wp_seq (wp_iteB (x := (List.range r).any fun j => !decide (rsum (rdots (xs.map decR) (slc q j (n - r))) = 0)) (st' := st) (Wp.eq ?_) (fun ha => ?_) (fun ha => ?_))
            · simp only [eS_seq, eS_skip, eS_ret, eS_ex, eS_asg, eS_ite, eS_raise, eE_call, eE_bi, eE_var, eE_cst, eE_glo, eE_fnv, eE_tup, eE_lst, eE_and, eE_or, eE_not, eE_ite, eE_mth, eE_chain, eE_sl, intP, slT, eA_cons, eA_nil, eT_nm, eT_tup, eT_cons, eT_nil, go_ok, go_exc, go_stuck, gv0, gvS, List.set_cons_zero, List.set_cons_succ, b_add, b_sub, b_mul, b_fdiv, b_mod, b_neg, b_abs, b_lt, b_le, b_gt, b_ge, b_eqI, b_neI, b_max, b_min, asBool_bl, mkTup1, mkTup2, b_idx, ix0, ix1, Bool.false_eq_true, reduceIte, b_isinst, b_len, b_all, b_any, b_tuple, b_list, b_append, b_pop, b_rev, b_int, b_isN, b_isNN, eT_sub, mkL_in, mkL_new, Bool.not_true, Bool.not_false, it_two, it_three, lenL, lenTu, mkLst_nil, mkTup3, isTL, isTT, go_assoc]
              refine Wp.on (comp_range (n := r) (g := fun i => (i : Int)) (r := fun j => .bl (!decide (rsum (rdots (xs.map decR) (slc q j (n - r))) = 0))) (src_rg1 (n := r) rfl rfl (by omega)) (fun j hj => ?_) (by omega)) ?_
              · simp only [eS_seq, eS_skip, eS_ret, eS_ex, eS_asg, eS_ite, eS_raise, eE_call, eE_bi, eE_var, eE_cst, eE_glo, eE_fnv, eE_tup, eE_lst, eE_and, eE_or, eE_not, eE_ite, eE_mth, eE_chain, eE_sl, intP, slT, eA_cons, eA_nil, eT_nm, eT_tup, eT_cons, eT_nil, go_ok, go_exc, go_stuck, gv0, gvS, List.set_cons_zero, List.set_cons_succ, b_add, b_sub, b_mul, b_fdiv, b_mod, b_neg, b_abs, b_lt, b_le, b_gt, b_ge, b_eqI, b_neI, b_max, b_min, asBool_bl, mkTup1, mkTup2, b_idx, ix0, ix1, Bool.false_eq_true, reduceIte, b_isinst, b_len, b_all, b_any, b_tuple, b_list, b_append, b_pop, b_rev, b_int, b_isN, b_isNN, eT_sub, mkL_in, mkL_new, Bool.not_true, Bool.not_false, it_two, it_three, lenL, lenTu, mkLst_nil, mkTup3, isTL, isTT, go_assoc, hcut j (by omega), hdot' j (by omega), he0, hz]
              · rw [anyV_mapI]
                exact Wp.ok ⟨rfl, rfl⟩
            · refine wp_seq (wp_ret (d := .bl false) (st' := st) (by simp only [eS_seq, eS_skip, eS_ret, eS_ex, eS_asg, eS_ite, eS_raise, eE_call, eE_bi, eE_var, eE_cst, eE_glo, eE_fnv, eE_tup, eE_lst, eE_and, eE_or, eE_not, eE_ite, eE_mth, eE_chain, eE_sl, intP, slT, eA_cons, eA_nil, eT_nm, eT_tup, eT_cons, eT_nil, go_ok, go_exc, go_stuck, gv0, gvS, List.set_cons_zero, List.set_cons_succ, b_add, b_sub, b_mul, b_fdiv, b_mod, b_neg, b_abs, b_lt, b_le, b_gt, b_ge, b_eqI, b_neI, b_max, b_min, asBool_bl, mkTup1, mkTup2, b_idx, ix0, ix1, Bool.false_eq_true, reduceIte, b_isinst, b_len, b_all, b_any, b_tuple, b_list, b_append, b_pop, b_rev, b_int, b_isN, b_isNN, eT_sub, mkL_in, mkL_new, Bool.not_true, Bool.not_false, it_two, it_three, lenL, lenTu, mkLst_nil, mkTup3, isTL, isTT, go_assoc] <;> rfl) ⟨_, rfl, leave_wp0 rfl rfl ⟨?_, rfl⟩⟩)
              show _ = D.bl (true && agH n r q (xs.map decR))
              unfold agH
              rw [ha]; rfl
            · refine wp_skip (wp_seq (wp_ret (d := .bl (!decide (rsum (rdots (xs.map decR) (slc q r (n - r))) = 0))) (st' := st) (by simp only [eS_seq, eS_skip, eS_ret, eS_ex, eS_asg, eS_ite, eS_raise, eE_call, eE_bi, eE_var, eE_cst, eE_glo, eE_fnv, eE_tup, eE_lst, eE_and, eE_or, eE_not, eE_ite, eE_mth, eE_chain, eE_sl, intP, slT, eA_cons, eA_nil, eT_nm, eT_tup, eT_cons, eT_nil, go_ok, go_exc, go_stuck, gv0, gvS, List.set_cons_zero, List.set_cons_succ, b_add, b_sub, b_mul, b_fdiv, b_mod, b_neg, b_abs, b_lt, b_le, b_gt, b_ge, b_eqI, b_neI, b_max, b_min, asBool_bl, mkTup1, mkTup2, b_idx, ix0, ix1, Bool.false_eq_true, reduceIte, b_isinst, b_len, b_all, b_any, b_tuple, b_list, b_append, b_pop, b_rev, b_int, b_isN, b_isNN, eT_sub, mkL_in, mkL_new, Bool.not_true, Bool.not_false, it_two, it_three, lenL, lenTu, mkLst_nil, mkTup3, isTL, isTT, go_assoc, hcut r (Nat.le_refl _), hdot' r (Nat.le_refl _), he0, hz] <;> rfl) ⟨_, rfl, leave_wp0 rfl rfl ⟨?_, rfl⟩⟩))
              show _ = D.bl (true && agH n r q (xs.map decR))
              unfold agH
              rw [ha]; rfl
          | _ => cases hir
      · have hw2 : (w == "against") = false := by simpa using hw2
        have hres : holdsD n r q (.tup [.str w, b]) = false := by
          show (if w == "recursion" then _ else if w == "against" then _ else _) = _
          rw [hw1, hw2]; rfl
        rw [hw2] at f2'
        rw [hres]
        exact wp_seq (wp_iteT (st' := st) (by simp only [eS_seq, eS_skip, eS_ret, eS_ex, eS_asg, eS_ite, eS_raise, eE_call, eE_bi, eE_var, eE_cst, eE_glo, eE_fnv, eE_tup, eE_lst, eE_and, eE_or, eE_not, eE_ite, eE_mth, eE_chain, eE_sl, intP, slT, eA_cons, eA_nil, eT_nm, eT_tup, eT_cons, eT_nil, go_ok, go_exc, go_stuck, gv0, gvS, List.set_cons_zero, List.set_cons_succ, b_add, b_sub, b_mul, b_fdiv, b_mod, b_neg, b_abs, b_lt, b_le, b_gt, b_ge, b_eqI, b_neI, b_max, b_min, asBool_bl, mkTup1, mkTup2, b_idx, ix0, ix1, Bool.false_eq_true, reduceIte, b_isinst, b_len, b_all, b_any, b_tuple, b_list, b_append, b_pop, b_rev, b_int, b_isN, b_isNN, eT_sub, mkL_in, mkL_new, Bool.not_true, Bool.not_false, it_two, it_three, lenL, lenTu, mkLst_nil, mkTup3, isTL, isTT, go_assoc, f2'] <;> rfl) (wp_seq (wp_ret (st' := st) (by simp only [eS_seq, eS_skip, eS_ret, eS_ex, eS_asg, eS_ite, eS_raise, eE_call, eE_bi, eE_var, eE_cst, eE_glo, eE_fnv, eE_tup, eE_lst, eE_and, eE_or, eE_not, eE_ite, eE_mth, eE_chain, eE_sl, intP, slT, eA_cons, eA_nil, eT_nm, eT_tup, eT_cons, eT_nil, go_ok, go_exc, go_stuck, gv0, gvS, List.set_cons_zero, List.set_cons_succ, b_add, b_sub, b_mul, b_fdiv, b_mod, b_neg, b_abs, b_lt, b_le, b_gt, b_ge, b_eqI, b_neI, b_max, b_min, asBool_bl, mkTup1, mkTup2, b_idx, ix0, ix1, Bool.false_eq_true, reduceIte, b_isinst, b_len, b_all, b_any, b_tuple, b_list, b_append, b_pop, b_rev, b_int, b_isN, b_isNN, eT_sub, mkL_in, mkL_new, Bool.not_true, Bool.not_false, it_two, it_three, lenL, lenTu, mkLst_nil, mkTup3, isTL, isTT, go_assoc] <;> rfl) ⟨_, rfl, leave_wp0 rfl rfl ⟨rfl, rfl⟩⟩)))
  · have hres : holdsD n r q p = false := by
      unfold holdsD
      split
      · rename_i w b; exact absurd ⟨w, b, rfl⟩ hform
      · rfl
    have hf : ∀ w : Str, PyData.strOk w = true → callF tbl (k + 6) 8 [p, .str w, .int 2] st = .ok (.bl false) st := fun w hw => by
      by_cases h2 : ∃ a b, p = .tup [a, b]
      · obtain ⟨a, b, rfl⟩ := h2
        obtain ⟨ha, _⟩ := hp.2 _ _ rfl
        have := has_form_two (k := k + 5) (a := a) (b := b) (w := w) (st := st) hw ha (fun x e => absurd ⟨x, b, by rw [e]⟩ hform)
        have e : formD w 2 (.tup [a, b]) = false := by
          cases a with
          | str x => exact absurd ⟨x, b, rfl⟩ hform
          | _ => rfl
        rwa [e] at this
      · exact has_form_no (k := k + 5) hp.1 fun xs e hl => by
          match xs, hl with
          | [a, b], _ => exact h2 ⟨a, b, e⟩
    have f1 := hf "recursion" (by decide +kernel)
    have f2 := hf "against" (by decide +kernel)
    rw [hres]
    refine wp_seq (wp_iteF (st' := st) (by simp only [eS_seq, eS_skip, eS_ret, eS_ex, eS_asg, eS_ite, eS_raise, eE_call, eE_bi, eE_var, eE_cst, eE_glo, eE_fnv, eE_tup, eE_lst, eE_and, eE_or, eE_not, eE_ite, eE_mth, eE_chain, eE_sl, intP, slT, eA_cons, eA_nil, eT_nm, eT_tup, eT_cons, eT_nil, go_ok, go_exc, go_stuck, gv0, gvS, List.set_cons_zero, List.set_cons_succ, b_add, b_sub, b_mul, b_fdiv, b_mod, b_neg, b_abs, b_lt, b_le, b_gt, b_ge, b_eqI, b_neI, b_max, b_min, asBool_bl, mkTup1, mkTup2, b_idx, ix0, ix1, Bool.false_eq_true, reduceIte, b_isinst, b_len, b_all, b_any, b_tuple, b_list, b_append, b_pop, b_rev, b_int, b_isN, b_isNN, eT_sub, mkL_in, mkL_new, Bool.not_true, Bool.not_false, it_two, it_three, lenL, lenTu, mkLst_nil, mkTup3, isTL, isTT, go_assoc, f1] <;> rfl) (wp_skip ?_))
    exact wp_seq (wp_iteT (st' := st) (by simp only [eS_seq, eS_skip, eS_ret, eS_ex, eS_asg, eS_ite, eS_raise, eE_call, eE_bi, eE_var, eE_cst, eE_glo, eE_fnv, eE_tup, eE_lst, eE_and, eE_or, eE_not, eE_ite, eE_mth, eE_chain, eE_sl, intP, slT, eA_cons, eA_nil, eT_nm, eT_tup, eT_cons, eT_nil, go_ok, go_exc, go_stuck, gv0, gvS, List.set_cons_zero, List.set_cons_succ, b_add, b_sub, b_mul, b_fdiv, b_mod, b_neg, b_abs, b_lt, b_le, b_gt, b_ge, b_eqI, b_neI, b_max, b_min, asBool_bl, mkTup1, mkTup2, b_idx, ix0, ix1, Bool.false_eq_true, reduceIte, b_isinst, b_len, b_all, b_any, b_tuple, b_list, b_append, b_pop, b_rev, b_int, b_isN, b_isNN, eT_sub, mkL_in, mkL_new, Bool.not_true, Bool.not_false, it_two, it_three, lenL, lenTu, mkLst_nil, mkTup3, isTL, isTT, go_assoc, f2] <;> rfl) (wp_seq (wp_ret (st' := st) (by simp only [eS_seq, eS_skip, eS_ret, eS_ex, eS_asg, eS_ite, eS_raise, eE_call, eE_bi, eE_var, eE_cst, eE_glo, eE_fnv, eE_tup, eE_lst, eE_and, eE_or, eE_not, eE_ite, eE_mth, eE_chain, eE_sl, intP, slT, eA_cons, eA_nil, eT_nm, eT_tup, eT_cons, eT_nil, go_ok, go_exc, go_stuck, gv0, gvS, List.set_cons_zero, List.set_cons_succ, b_add, b_sub, b_mul, b_fdiv, b_mod, b_neg, b_abs, b_lt, b_le, b_gt, b_ge, b_eqI, b_neI, b_max, b_min, asBool_bl, mkTup1, mkTup2, b_idx, ix0, ix1, Bool.false_eq_true, reduceIte, b_isinst, b_len, b_all, b_any, b_tuple, b_list, b_append, b_pop, b_rev, b_int, b_isN, b_isNN, eT_sub, mkL_in, mkL_new, Bool.not_true, Bool.not_false, it_two, it_three, lenL, lenTu, mkLst_nil, mkTup3, isTL, isTT, go_assoc] <;> rfl) ⟨_, rfl, leave_wp0 rfl rfl ⟨rfl, rfl⟩⟩)))
end
end K82
set_option Elab.async false
set_option linter.all false
set_option maxRecDepth 100000
set_option maxHeartbeats 1000000
namespace K82
open PySem PC
theorem eq_str {w x : Str} {st : Store} (h1 : PyData.strOk w = true) (h2 : PyData.strOk x = true) : biV .eq [.str w, .str x] st = .ok (.bl (w == x)) st := by
  show (if okD 60 (.str w) && okD 60 (.str x) then Res.ok (D.bl (eqv (.str w) (.str x))) st else .stuck) = _
  rw [show okD 60 (.str w) = true from h1, show okD 60 (.str x) = true from h2]; rfl
theorem ne_str {w x : Str} {st : Store} (h1 : PyData.strOk w = true) (h2 : PyData.strOk x = true) : biV .ne [.str w, .str x] st = .ok (.bl (!(w == x))) st := by
  show (if okD 60 (.str w) && okD 60 (.str x) then Res.ok (D.bl (!eqv (.str w) (.str x))) st else .stuck) = _
  rw [show okD 60 (.str w) = true from h1, show okD 60 (.str x) = true from h2]; rfl
theorem isS {x : Str} {st : Store} : isinstV [.str] (.str x) st = .ok (.bl true) st := (rfl)
section
variable {n B r : Nat} {R : Int} {q : Nat → Rat}
theorem holds_no {p : D} (hform : ¬ ∃ w b, p = .tup [.str w, b]) : holdsD n r q p = false := by
  unfold holdsD
  split
  · rename_i w b; exact absurd ⟨w, b, rfl⟩ hform
  · rfl
theorem cut_any {j : Nat} (hj : j ≤ r) : cut (fr n q) (some (j : Int)) (some ((j : Int) + ((n - r : Nat) : Int))) = (slc q j (n - r)).map encR := by
  by_cases hrn : r ≤ n
  · exact row_cut (by omega)
  · have e0 : n - r = 0 := by omega
    rw [e0]
    unfold cut HT.sIx
    have e1 : ¬ ((j : Int) < 0) := by omega
    simp only [Int.natCast_zero, Int.add_zero, e1, if_false, Int.toNat_natCast, fr_len, Nat.sub_self, List.take_zero]
    rfl
theorem dotok_nil {qs : List Rat} (h : qs = []) : DotOk [] qs := by
  subst h
  exact ⟨⟨1, 1, 1, 1, by decide, by decide, Nat.one_lt_two_pow (by decide), Nat.one_lt_two_pow (by decide), Nat.one_lt_two_pow (by decide), Nat.one_lt_two_pow (by decide), (fun p hp => nomatch hp), fun p hp => nomatch hp⟩, Nat.zero_le _⟩
theorem lholds_call {k : Nat} {st : Store} {p : D} (h : Row n B R q) (hr : r ≤ 20) (hp : PapOk p) : callF tbl (k + 7) 34 [.tup (fr n q), .int (r : Nat), p] st = .ok (.bl (holdsD n r q p)) st := by
  have hn := h.n40
  refine Wp.eq (call_wp (d := d__law_holds) rfl rfl rfl ?_)
  show Wp (evS (callF tbl (k + 6)) b__law_holds [some (.tup (fr n q)), some (.int (r : Nat)), some p, none, none, none] st) _
  unfold b__law_holds
  have hmax : max2 ((n : Int) - (r : Int)) 0 = ((n - r : Nat) : Int) := by unfold max2; split <;> omega
  refine wp_seq (wp_asgP (d := .int ((n - r : Nat) : Int)) (by simp only [eS_seq, eS_skip, eS_ret, eS_ex, eS_asg, eS_ite, eS_raise, eE_call, eE_bi, eE_var, eE_cst, eE_glo, eE_fnv, eE_tup, eE_lst, eE_and, eE_or, eE_not, eE_ite, eE_mth, eE_chain, eE_sl, intP, slT, eA_cons, eA_nil, eT_nm, eT_tup, eT_cons, eT_nil, go_ok, go_exc, go_stuck, gv0, gvS, List.set_cons_zero, List.set_cons_succ, b_add, b_sub, b_mul, b_fdiv, b_mod, b_neg, b_abs, b_lt, b_le, b_gt, b_ge, b_eqI, b_neI, b_max, b_min, asBool_bl, mkTup1, mkTup2, b_idx, ix0, ix1, Bool.false_eq_true, reduceIte, b_isinst, b_len, b_all, b_any, b_tuple, b_list, b_append, b_pop, b_rev, b_int, b_isN, b_isNN, eT_sub, mkL_in, mkL_new, Bool.not_true, Bool.not_false, it_two, it_three, lenL, lenTu, mkLst_nil, mkTup3, isTL, isTT, go_assoc, fr_len, hmax] <;> rfl) ?_)
  by_cases hform : ∃ w b, p = .tup [.str w, b]
  · obtain ⟨w, b, rfl⟩ := hform
    obtain ⟨_, hw, hb, hx⟩ := hp.2 _ _ rfl
    have hw : PyData.strOk w = true := hw
    have f1 := eq_str (x := "recursion") (st := st) hw (by decide +kernel)
    have f2 := ne_str (x := "against") (st := st) hw (by decide +kernel)
    have e2 : ((([D.str w, b] : List D).length : Int) == 2) = true := rfl
    refine wp_seq (wp_iteF (st' := st) (by simp only [eS_seq, eS_skip, eS_ret, eS_ex, eS_asg, eS_ite, eS_raise, eE_call, eE_bi, eE_var, eE_cst, eE_glo, eE_fnv, eE_tup, eE_lst, eE_and, eE_or, eE_not, eE_ite, eE_mth, eE_chain, eE_sl, intP, slT, eA_cons, eA_nil, eT_nm, eT_tup, eT_cons, eT_nil, go_ok, go_exc, go_stuck, gv0, gvS, List.set_cons_zero, List.set_cons_succ, b_add, b_sub, b_mul, b_fdiv, b_mod, b_neg, b_abs, b_lt, b_le, b_gt, b_ge, b_eqI, b_neI, b_max, b_min, asBool_bl, mkTup1, mkTup2, b_idx, ix0, ix1, Bool.false_eq_true, reduceIte, b_isinst, b_len, b_all, b_any, b_tuple, b_list, b_append, b_pop, b_rev, b_int, b_isN, b_isNN, eT_sub, mkL_in, mkL_new, Bool.not_true, Bool.not_false, it_two, it_three, lenL, lenTu, mkLst_nil, mkTup3, isTL, isTT, go_assoc, e2, isS] <;> rfl) (wp_skip ?_))
    refine wp_seq (wp_iteB (x := w == "recursion") (st' := st) (by simp only [eS_seq, eS_skip, eS_ret, eS_ex, eS_asg, eS_ite, eS_raise, eE_call, eE_bi, eE_var, eE_cst, eE_glo, eE_fnv, eE_tup, eE_lst, eE_and, eE_or, eE_not, eE_ite, eE_mth, eE_chain, eE_sl, intP, slT, eA_cons, eA_nil, eT_nm, eT_tup, eT_cons, eT_nil, go_ok, go_exc, go_stuck, gv0, gvS, List.set_cons_zero, List.set_cons_succ, b_add, b_sub, b_mul, b_fdiv, b_mod, b_neg, b_abs, b_lt, b_le, b_gt, b_ge, b_eqI, b_neI, b_max, b_min, asBool_bl, mkTup1, mkTup2, b_idx, ix0, ix1, Bool.false_eq_true, reduceIte, b_isinst, b_len, b_all, b_any, b_tuple, b_list, b_append, b_pop, b_rev, b_int, b_isN, b_isNN, eT_sub, mkL_in, mkL_new, Bool.not_true, Bool.not_false, it_two, it_three, lenL, lenTu, mkLst_nil, mkTup3, isTL, isTT, go_assoc, f1] <;> rfl) (fun hw1 => ?_) (fun hw1 => ?_))
    · have hrow := lis_row_any (k := k + 3) (m := r) (st := st) hb
      have hres : holdsD n r q (.tup [.str w, b]) = (isRow r b && recH n r q (rowOf b)) := by
        show (if w == "recursion" then _ else _) = _
        rw [hw1]; rfl
      rw [hres]
      cases hir : isRow r b with
      | false =>
        rw [hir] at hrow
        exact wp_seq (wp_iteT (st' := st) (by simp only [eS_seq, eS_skip, eS_ret, eS_ex, eS_asg, eS_ite, eS_raise, eE_call, eE_bi, eE_var, eE_cst, eE_glo, eE_fnv, eE_tup, eE_lst, eE_and, eE_or, eE_not, eE_ite, eE_mth, eE_chain, eE_sl, intP, slT, eA_cons, eA_nil, eT_nm, eT_tup, eT_cons, eT_nil, go_ok, go_exc, go_stuck, gv0, gvS, List.set_cons_zero, List.set_cons_succ, b_add, b_sub, b_mul, b_fdiv, b_mod, b_neg, b_abs, b_lt, b_le, b_gt, b_ge, b_eqI, b_neI, b_max, b_min, asBool_bl, mkTup1, mkTup2, b_idx, ix0, ix1, Bool.false_eq_true, reduceIte, b_isinst, b_len, b_all, b_any, b_tuple, b_list, b_append, b_pop, b_rev, b_int, b_isN, b_isNN, eT_sub, mkL_in, mkL_new, Bool.not_true, Bool.not_false, it_two, it_three, lenL, lenTu, mkLst_nil, mkTup3, isTL, isTT, go_assoc, hrow] <;> rfl) (wp_seq (wp_ret (st' := st) (by simp only [eS_seq, eS_skip, eS_ret, eS_ex, eS_asg, eS_ite, eS_raise, eE_call, eE_bi, eE_var, eE_cst, eE_glo, eE_fnv, eE_tup, eE_lst, eE_and, eE_or, eE_not, eE_ite, eE_mth, eE_chain, eE_sl, intP, slT, eA_cons, eA_nil, eT_nm, eT_tup, eT_cons, eT_nil, go_ok, go_exc, go_stuck, gv0, gvS, List.set_cons_zero, List.set_cons_succ, b_add, b_sub, b_mul, b_fdiv, b_mod, b_neg, b_abs, b_lt, b_le, b_gt, b_ge, b_eqI, b_neI, b_max, b_min, asBool_bl, mkTup1, mkTup2, b_idx, ix0, ix1, Bool.false_eq_true, reduceIte, b_isinst, b_len, b_all, b_any, b_tuple, b_list, b_append, b_pop, b_rev, b_int, b_isN, b_isNN, eT_sub, mkL_in, mkL_new, Bool.not_true, Bool.not_false, it_two, it_three, lenL, lenTu, mkLst_nil, mkTup3, isTL, isTT, go_assoc] <;> rfl) ⟨_, rfl, leave_wp0 rfl rfl ⟨rfl, rfl⟩⟩)))
      | true =>
        rw [hir] at hrow
        cases b with
        | tup xs =>
          have hir' : (decide (xs.length = r) && xs.all isRatioD) = true := hir
          rw [Bool.and_eq_true] at hir'
          have hgood := hx xs rfl hir'.2
          have hlen : xs.length = r := of_decide_eq_true hir'.1
          refine wp_seq (wp_iteF (st' := st) (by simp only [eS_seq, eS_skip, eS_ret, eS_ex, eS_asg, eS_ite, eS_raise, eE_call, eE_bi, eE_var, eE_cst, eE_glo, eE_fnv, eE_tup, eE_lst, eE_and, eE_or, eE_not, eE_ite, eE_mth, eE_chain, eE_sl, intP, slT, eA_cons, eA_nil, eT_nm, eT_tup, eT_cons, eT_nil, go_ok, go_exc, go_stuck, gv0, gvS, List.set_cons_zero, List.set_cons_succ, b_add, b_sub, b_mul, b_fdiv, b_mod, b_neg, b_abs, b_lt, b_le, b_gt, b_ge, b_eqI, b_neI, b_max, b_min, asBool_bl, mkTup1, mkTup2, b_idx, ix0, ix1, Bool.false_eq_true, reduceIte, b_isinst, b_len, b_all, b_any, b_tuple, b_list, b_append, b_pop, b_rev, b_int, b_isN, b_isNN, eT_sub, mkL_in, mkL_new, Bool.not_true, Bool.not_false, it_two, it_three, lenL, lenTu, mkLst_nil, mkTup3, isTL, isTT, go_assoc, hrow] <;> rfl) (wp_skip ?_))
          refine wp_seq (wp_ret (d := .bl (true && recH n r q (xs.map decR))) (st' := st) (Wp.eq ?_) ⟨_, rfl, leave_wp0 rfl rfl ⟨rfl, rfl⟩⟩)
          simp only [eS_seq, eS_skip, eS_ret, eS_ex, eS_asg, eS_ite, eS_raise, eE_call, eE_bi, eE_var, eE_cst, eE_glo, eE_fnv, eE_tup, eE_lst, eE_and, eE_or, eE_not, eE_ite, eE_mth, eE_chain, eE_sl, intP, slT, eA_cons, eA_nil, eT_nm, eT_tup, eT_cons, eT_nil, go_ok, go_exc, go_stuck, gv0, gvS, List.set_cons_zero, List.set_cons_succ, b_add, b_sub, b_mul, b_fdiv, b_mod, b_neg, b_abs, b_lt, b_le, b_gt, b_ge, b_eqI, b_neI, b_max, b_min, asBool_bl, mkTup1, mkTup2, b_idx, ix0, ix1, Bool.false_eq_true, reduceIte, b_isinst, b_len, b_all, b_any, b_tuple, b_list, b_append, b_pop, b_rev, b_int, b_isN, b_isNN, eT_sub, mkL_in, mkL_new, Bool.not_true, Bool.not_false, it_two, it_three, lenL, lenTu, mkLst_nil, mkTup3, isTL, isTT, go_assoc]
          refine Wp.on (comp_range (n := n - r) (g := fun i => (i : Int)) (r := fun i => .bl (decide (rsum (rdots (xs.map decR) (slc q i r)) = q (i + r)))) (src_rg1 (n := n - r) rfl rfl (by omega)) (fun i hi => ?_) (by omega)) ?_
          · have hd := ldot_ov (k := k + 3) (st := st) (dot_good h (i := i) (m := r) (by omega) (by omega) hgood) (by rw [slc_len, List.length_map]; omega) (d := .tup ((slc q i r).map encR)) rfl
            rw [encs_of hir'.2] at hd
            have hc := row_cut (q := q) (show i + r ≤ n by omega)
            have hi2 : idxV (.tup (fr n q)) (.int ((i : Int) + (r : Int))) st = .ok (encR (q (i + r))) st := by
              rw [← Int.natCast_add]
              exact ix_at (fr_get (by omega))
            simp only [eS_seq, eS_skip, eS_ret, eS_ex, eS_asg, eS_ite, eS_raise, eE_call, eE_bi, eE_var, eE_cst, eE_glo, eE_fnv, eE_tup, eE_lst, eE_and, eE_or, eE_not, eE_ite, eE_mth, eE_chain, eE_sl, intP, slT, eA_cons, eA_nil, eT_nm, eT_tup, eT_cons, eT_nil, go_ok, go_exc, go_stuck, gv0, gvS, List.set_cons_zero, List.set_cons_succ, b_add, b_sub, b_mul, b_fdiv, b_mod, b_neg, b_abs, b_lt, b_le, b_gt, b_ge, b_eqI, b_neI, b_max, b_min, asBool_bl, mkTup1, mkTup2, b_idx, ix0, ix1, Bool.false_eq_true, reduceIte, b_isinst, b_len, b_all, b_any, b_tuple, b_list, b_append, b_pop, b_rev, b_int, b_isN, b_isNN, eT_sub, mkL_in, mkL_new, Bool.not_true, Bool.not_false, it_two, it_three, lenL, lenTu, mkLst_nil, mkTup3, isTL, isTT, go_assoc, hc, hd, hi2, b_eqR]
          · rw [allV_mapI]
            exact Wp.ok ⟨by rw [Bool.true_and]; rfl, rfl⟩
        | _ => cases hir
    · refine wp_skip ?_
      by_cases hw2 : (w == "against") = true
      · have hrow := lis_row_any (k := k + 3) (m := n - r) (st := st) hb
        have hres : holdsD n r q (.tup [.str w, b]) = (isRow (n - r) b && agH n r q (rowOf b)) := by
          show (if w == "recursion" then _ else if w == "against" then _ else _) = _
          rw [hw1, hw2]; rfl
        rw [hw2] at f2
        rw [hres]
        cases hir : isRow (n - r) b with
        | false =>
          rw [hir] at hrow
          refine wp_seq (wp_iteT (st' := st) (by simp only [eS_seq, eS_skip, eS_ret, eS_ex, eS_asg, eS_ite, eS_raise, eE_call, eE_bi, eE_var, eE_cst, eE_glo, eE_fnv, eE_tup, eE_lst, eE_and, eE_or, eE_not, eE_ite, eE_mth, eE_chain, eE_sl, intP, slT, eA_cons, eA_nil, eT_nm, eT_tup, eT_cons, eT_nil, go_ok, go_exc, go_stuck, gv0, gvS, List.set_cons_zero, List.set_cons_succ, b_add, b_sub, b_mul, b_fdiv, b_mod, b_neg, b_abs, b_lt, b_le, b_gt, b_ge, b_eqI, b_neI, b_max, b_min, asBool_bl, mkTup1, mkTup2, b_idx, ix0, ix1, Bool.false_eq_true, reduceIte, b_isinst, b_len, b_all, b_any, b_tuple, b_list, b_append, b_pop, b_rev, b_int, b_isN, b_isNN, eT_sub, mkL_in, mkL_new, Bool.not_true, Bool.not_false, it_two, it_three, lenL, lenTu, mkLst_nil, mkTup3, isTL, isTT, go_assoc, f2, hrow] <;> rfl) (wp_seq (wp_ret (st' := st) (by simp only [eS_seq, eS_skip, eS_ret, eS_ex, eS_asg, eS_ite, eS_raise, eE_call, eE_bi, eE_var, eE_cst, eE_glo, eE_fnv, eE_tup, eE_lst, eE_and, eE_or, eE_not, eE_ite, eE_mth, eE_chain, eE_sl, intP, slT, eA_cons, eA_nil, eT_nm, eT_tup, eT_cons, eT_nil, go_ok, go_exc, go_stuck, gv0, gvS, List.set_cons_zero, List.set_cons_succ, b_add, b_sub, b_mul, b_fdiv, b_mod, b_neg, b_abs, b_lt, b_le, b_gt, b_ge, b_eqI, b_neI, b_max, b_min, asBool_bl, mkTup1, mkTup2, b_idx, ix0, ix1, Bool.false_eq_true, reduceIte, b_isinst, b_len, b_all, b_any, b_tuple, b_list, b_append, b_pop, b_rev, b_int, b_isN, b_isNN, eT_sub, mkL_in, mkL_new, Bool.not_true, Bool.not_false, it_two, it_three, lenL, lenTu, mkLst_nil, mkTup3, isTL, isTT, go_assoc] <;> rfl) ⟨_, rfl, leave_wp0 rfl rfl ⟨rfl, rfl⟩⟩)))
        | true =>
          rw [hir] at hrow
          cases b with
          | tup xs =>
            have hir' : (decide (xs.length = n - r) && xs.all isRatioD) = true := hir
            rw [Bool.and_eq_true] at hir'
            have hgood := hx xs rfl hir'.2
            have hlen : xs.length = n - r := of_decide_eq_true hir'.1
            refine wp_seq (wp_iteF (st' := st) (by simp only [eS_seq, eS_skip, eS_ret, eS_ex, eS_asg, eS_ite, eS_raise, eE_call, eE_bi, eE_var, eE_cst, eE_glo, eE_fnv, eE_tup, eE_lst, eE_and, eE_or, eE_not, eE_ite, eE_mth, eE_chain, eE_sl, intP, slT, eA_cons, eA_nil, eT_nm, eT_tup, eT_cons, eT_nil, go_ok, go_exc, go_stuck, gv0, gvS, List.set_cons_zero, List.set_cons_succ, b_add, b_sub, b_mul, b_fdiv, b_mod, b_neg, b_abs, b_lt, b_le, b_gt, b_ge, b_eqI, b_neI, b_max, b_min, asBool_bl, mkTup1, mkTup2, b_idx, ix0, ix1, Bool.false_eq_true, reduceIte, b_isinst, b_len, b_all, b_any, b_tuple, b_list, b_append, b_pop, b_rev, b_int, b_isN, b_isNN, eT_sub, mkL_in, mkL_new, Bool.not_true, Bool.not_false, it_two, it_three, lenL, lenTu, mkLst_nil, mkTup3, isTL, isTT, go_assoc, f2, hrow] <;> rfl) (wp_skip ?_))
            have hdot : ∀ j, j ≤ r → callF tbl (k + 6) 33 [.tup xs, .tup ((slc q j (n - r)).map encR)] st = .ok (encR (rsum (rdots (xs.map decR) (slc q j (n - r))))) st := fun j hj => by
              have hok : DotOk (xs.map decR) (slc q j (n - r)) := by
                by_cases hrn : r ≤ n
                · exact dot_good h (i := j) (m := n - r) (by omega) (by omega) hgood
                · have e0 : n - r = 0 := by omega
                  have hxs : xs = [] := List.eq_nil_of_length_eq_zero (by omega)
                  subst hxs
                  exact dotok_nil (by rw [e0]; rfl)
              have hd := ldot_ov (k := k + 3) (st := st) hok (by rw [slc_len, List.length_map]; omega) (d := .tup ((slc q j (n - r)).map encR)) rfl
              rwa [encs_of hir'.2] at hd
            have hcut : ∀ j, j ≤ r → cut (fr n q) (some (j : Int)) (some ((j : Int) + ((n - r : Nat) : Int))) = (slc q j (n - r)).map encR := fun j hj => cut_any hj
            have hz : ∀ (x : Rat), biV .ne [.int x.num, .int 0] st = .ok (.bl (!decide (x = 0))) st := fun x => by rw [b_neI, enc_num0]
            have he0 : ∀ (x : Rat), idxV (encR x) (.int 0) st = .ok (.int x.num) st := fun x => ix0
            have hagf : ∀ j, j < r → rsum (rdots (xs.map decR) (slc q j (n - r))) ≠ 0 → agH n r q (xs.map decR) = false := fun j hj hne => by
              have : ((List.range r).any fun j => !decide (rsum (rdots (xs.map decR) (slc q j (n - r))) = 0)) = true := by
                rw [List.any_eq_true]
                exact ⟨j, List.mem_range.mpr hj, by simpa using hne⟩
              unfold agH
              rw [this]; rfl
            refine wp_seq ((wp_range (n := r) (g := fun i => (i : Int)) (Q := fun f st' => st' = st ∧ ((f = .rt (.bl false) ∧ agH n r q (xs.map decR) = false) ∨ ∃ x4, f = .nx [some (.tup (fr n q)), some (.int (r : Nat)), some (.tup [.str w, .tup xs]), some (.int ((n - r : Nat) : Int)), x4, none] ∧ ∀ j, j < r → rsum (rdots (xs.map decR) (slc q j (n - r))) = 0)) (src_rg1 (n := r) rfl rfl (by omega)) (fun i ρ st' => st' = st ∧ (∃ x4, ρ = [some (.tup (fr n q)), some (.int (r : Nat)), some (.tup [.str w, .tup xs]), some (.int ((n - r : Nat) : Int)), x4, none]) ∧ ∀ j, j < i → rsum (rdots (xs.map decR) (slc q j (n - r))) = 0) ?_ ?_ ?_).mono ?_)
            · exact ⟨rfl, ⟨_, rfl⟩, fun j hj => absurd hj (Nat.not_lt_zero _)⟩
            · rintro j hj ρ st' ⟨hst, ⟨x4, rfl⟩, hall⟩
              subst hst
              refine wp_seq (wp_iteB (x := !decide (rsum (rdots (xs.map decR) (slc q j (n - r))) = 0)) (st' := st') (by simp only [eS_seq, eS_skip, eS_ret, eS_ex, eS_asg, eS_ite, eS_raise, eE_call, eE_bi, eE_var, eE_cst, eE_glo, eE_fnv, eE_tup, eE_lst, eE_and, eE_or, eE_not, eE_ite, eE_mth, eE_chain, eE_sl, intP, slT, eA_cons, eA_nil, eT_nm, eT_tup, eT_cons, eT_nil, go_ok, go_exc, go_stuck, gv0, gvS, List.set_cons_zero, List.set_cons_succ, b_add, b_sub, b_mul, b_fdiv, b_mod, b_neg, b_abs, b_lt, b_le, b_gt, b_ge, b_eqI, b_neI, b_max, b_min, asBool_bl, mkTup1, mkTup2, b_idx, ix0, ix1, Bool.false_eq_true, reduceIte, b_isinst, b_len, b_all, b_any, b_tuple, b_list, b_append, b_pop, b_rev, b_int, b_isN, b_isNN, eT_sub, mkL_in, mkL_new, Bool.not_true, Bool.not_false, it_two, it_three, lenL, lenTu, mkLst_nil, mkTup3, isTL, isTT, go_assoc, hcut j (by omega), hdot j (by omega), he0, hz] <;> rfl) (fun hx => ?_) (fun hx => ?_))
              · have hx : rsum (rdots (xs.map decR) (slc q j (n - r))) ≠ 0 := by simpa using hx
                exact wp_seq (wp_ret (d := .bl false) (st' := st') (by simp only [eS_seq, eS_skip, eS_ret, eS_ex, eS_asg, eS_ite, eS_raise, eE_call, eE_bi, eE_var, eE_cst, eE_glo, eE_fnv, eE_tup, eE_lst, eE_and, eE_or, eE_not, eE_ite, eE_mth, eE_chain, eE_sl, intP, slT, eA_cons, eA_nil, eT_nm, eT_tup, eT_cons, eT_nil, go_ok, go_exc, go_stuck, gv0, gvS, List.set_cons_zero, List.set_cons_succ, b_add, b_sub, b_mul, b_fdiv, b_mod, b_neg, b_abs, b_lt, b_le, b_gt, b_ge, b_eqI, b_neI, b_max, b_min, asBool_bl, mkTup1, mkTup2, b_idx, ix0, ix1, Bool.false_eq_true, reduceIte, b_isinst, b_len, b_all, b_any, b_tuple, b_list, b_append, b_pop, b_rev, b_int, b_isN, b_isNN, eT_sub, mkL_in, mkL_new, Bool.not_true, Bool.not_false, it_two, it_three, lenL, lenTu, mkLst_nil, mkTup3, isTL, isTT, go_assoc] <;> rfl) ⟨rfl, .inl ⟨rfl, hagf j hj hx⟩⟩)
              · have hx : rsum (rdots (xs.map decR) (slc q j (n - r))) = 0 := by simpa using hx
                refine wp_skip (wp_skip ⟨rfl, ⟨_, rfl⟩, fun i hi => ?_⟩)
                by_cases e : i = j
                · rw [e]; exact hx
                · exact hall i (by omega)
            · rintro ρ st' ⟨hst, ⟨x4, rfl⟩, hall⟩
              exact ⟨hst, .inr ⟨_, rfl, hall⟩⟩
            · rintro f st' ⟨hst, ⟨rfl, hag⟩ | ⟨x4, rfl, hall⟩⟩
              · subst hst
                refine ⟨_, rfl, leave_wp0 rfl rfl ⟨?_, rfl⟩⟩
                show _ = D.bl (true && agH n r q (xs.map decR))
                rw [hag]; rfl
              · subst hst
                refine wp_seq (wp_ret (d := .bl (!decide (rsum (rdots (xs.map decR) (slc q r (n - r))) = 0))) (st' := st') (by simp only [eS_seq, eS_skip, eS_ret, eS_ex, eS_asg, eS_ite, eS_raise, eE_call, eE_bi, eE_var, eE_cst, eE_glo, eE_fnv, eE_tup, eE_lst, eE_and, eE_or, eE_not, eE_ite, eE_mth, eE_chain, eE_sl, intP, slT, eA_cons, eA_nil, eT_nm, eT_tup, eT_cons, eT_nil, go_ok, go_exc, go_stuck, gv0, gvS, List.set_cons_zero, List.set_cons_succ, b_add, b_sub, b_mul, b_fdiv, b_mod, b_neg, b_abs, b_lt, b_le, b_gt, b_ge, b_eqI, b_neI, b_max, b_min, asBool_bl, mkTup1, mkTup2, b_idx, ix0, ix1, Bool.false_eq_true, reduceIte, b_isinst, b_len, b_all, b_any, b_tuple, b_list, b_append, b_pop, b_rev, b_int, b_isN, b_isNN, eT_sub, mkL_in, mkL_new, Bool.not_true, Bool.not_false, it_two, it_three, lenL, lenTu, mkLst_nil, mkTup3, isTL, isTT, go_assoc, hcut r (Nat.le_refl _), hdot r (Nat.le_refl _), he0, hz] <;> rfl) ⟨_, rfl, leave_wp0 rfl rfl ⟨?_, rfl⟩⟩)
                show _ = D.bl (true && agH n r q (xs.map decR))
                have : ((List.range r).any fun j => !decide (rsum (rdots (xs.map decR) (slc q j (n - r))) = 0)) = false := by
                  rw [List.any_eq_false]
                  intro j hj
                  rw [hall j (List.mem_range.mp hj)]; simp
                unfold agH
                rw [this]; rfl
          | _ => cases hir
      · have hw2 : (w == "against") = false := by simpa using hw2
        have hres : holdsD n r q (.tup [.str w, b]) = false := by
          show (if w == "recursion" then _ else if w == "against" then _ else _) = _
          rw [hw1, hw2]; rfl
        rw [hw2] at f2
        rw [hres]
        exact wp_seq (wp_iteT (st' := st) (by simp only [eS_seq, eS_skip, eS_ret, eS_ex, eS_asg, eS_ite, eS_raise, eE_call, eE_bi, eE_var, eE_cst, eE_glo, eE_fnv, eE_tup, eE_lst, eE_and, eE_or, eE_not, eE_ite, eE_mth, eE_chain, eE_sl, intP, slT, eA_cons, eA_nil, eT_nm, eT_tup, eT_cons, eT_nil, go_ok, go_exc, go_stuck, gv0, gvS, List.set_cons_zero, List.set_cons_succ, b_add, b_sub, b_mul, b_fdiv, b_mod, b_neg, b_abs, b_lt, b_le, b_gt, b_ge, b_eqI, b_neI, b_max, b_min, asBool_bl, mkTup1, mkTup2, b_idx, ix0, ix1, Bool.false_eq_true, reduceIte, b_isinst, b_len, b_all, b_any, b_tuple, b_list, b_append, b_pop, b_rev, b_int, b_isN, b_isNN, eT_sub, mkL_in, mkL_new, Bool.not_true, Bool.not_false, it_two, it_three, lenL, lenTu, mkLst_nil, mkTup3, isTL, isTT, go_assoc, f2] <;> rfl) (wp_seq (wp_ret (st' := st) (by simp only [eS_seq, eS_skip, eS_ret, eS_ex, eS_asg, eS_ite, eS_raise, eE_call, eE_bi, eE_var, eE_cst, eE_glo, eE_fnv, eE_tup, eE_lst, eE_and, eE_or, eE_not, eE_ite, eE_mth, eE_chain, eE_sl, intP, slT, eA_cons, eA_nil, eT_nm, eT_tup, eT_cons, eT_nil, go_ok, go_exc, go_stuck, gv0, gvS, List.set_cons_zero, List.set_cons_succ, b_add, b_sub, b_mul, b_fdiv, b_mod, b_neg, b_abs, b_lt, b_le, b_gt, b_ge, b_eqI, b_neI, b_max, b_min, asBool_bl, mkTup1, mkTup2, b_idx, ix0, ix1, Bool.false_eq_true, reduceIte, b_isinst, b_len, b_all, b_any, b_tuple, b_list, b_append, b_pop, b_rev, b_int, b_isN, b_isNN, eT_sub, mkL_in, mkL_new, Bool.not_true, Bool.not_false, it_two, it_three, lenL, lenTu, mkLst_nil, mkTup3, isTL, isTT, go_assoc] <;> rfl) ⟨_, rfl, leave_wp0 rfl rfl ⟨rfl, rfl⟩⟩)))
  · rw [holds_no hform]
    have hev : evE (callF tbl (k + 6)) (.or_ (.not_ (.bi (.isinst [.tuple]) (.cons (.var 2) .nil))) (.or_ (.bi .ne (.cons (.bi .len (.cons (.var 2) .nil)) (.cons (.cst (.int 2)) .nil))) (.not_ (.bi (.isinst [.str]) (.cons (.bi .idx (.cons (.var 2) (.cons (.cst (.int 0)) .nil))) .nil))))) [some (.tup (fr n q)), some (.int (r : Nat)), some p, some (.int ((n - r : Nat) : Int)), none, none] st = .ok (.bl true) st := by
      by_cases h2 : ∃ a b, p = .tup [a, b]
      · obtain ⟨a, b, rfl⟩ := h2
        obtain ⟨ha, _⟩ := hp.2 _ _ rfl
        cases a with
        | str x => exact absurd ⟨x, b, rfl⟩ hform
        | ref _ => cases ha
        | fn _ => cases ha
        | lok _ => cases ha
        | _ => rfl
      · cases p with
        | tup xs =>
          have e2 : ((xs.length : Int) == 2) = false := by
            have : xs.length ≠ 2 := fun hl => by
              match xs, hl with
              | [a, b], _ => exact h2 ⟨a, b, rfl⟩
            have : ¬ ((xs.length : Int) = 2) := by omega
            simpa using this
          simp only [eS_seq, eS_skip, eS_ret, eS_ex, eS_asg, eS_ite, eS_raise, eE_call, eE_bi, eE_var, eE_cst, eE_glo, eE_fnv, eE_tup, eE_lst, eE_and, eE_or, eE_not, eE_ite, eE_mth, eE_chain, eE_sl, intP, slT, eA_cons, eA_nil, eT_nm, eT_tup, eT_cons, eT_nil, go_ok, go_exc, go_stuck, gv0, gvS, List.set_cons_zero, List.set_cons_succ, b_add, b_sub, b_mul, b_fdiv, b_mod, b_neg, b_abs, b_lt, b_le, b_gt, b_ge, b_eqI, b_neI, b_max, b_min, asBool_bl, mkTup1, mkTup2, b_idx, ix0, ix1, Bool.false_eq_true, reduceIte, b_isinst, b_len, b_all, b_any, b_tuple, b_list, b_append, b_pop, b_rev, b_int, b_isN, b_isNN, eT_sub, mkL_in, mkL_new, Bool.not_true, Bool.not_false, it_two, it_three, lenL, lenTu, mkLst_nil, mkTup3, isTL, isTT, go_assoc, e2]
        | ref _ => cases hp.1
        | fn _ => cases hp.1
        | lok _ => cases hp.1
        | _ => rfl
    exact wp_seq (wp_iteT (st' := st) hev (wp_seq (wp_ret (st' := st) (by simp only [eS_seq, eS_skip, eS_ret, eS_ex, eS_asg, eS_ite, eS_raise, eE_call, eE_bi, eE_var, eE_cst, eE_glo, eE_fnv, eE_tup, eE_lst, eE_and, eE_or, eE_not, eE_ite, eE_mth, eE_chain, eE_sl, intP, slT, eA_cons, eA_nil, eT_nm, eT_tup, eT_cons, eT_nil, go_ok, go_exc, go_stuck, gv0, gvS, List.set_cons_zero, List.set_cons_succ, b_add, b_sub, b_mul, b_fdiv, b_mod, b_neg, b_abs, b_lt, b_le, b_gt, b_ge, b_eqI, b_neI, b_max, b_min, asBool_bl, mkTup1, mkTup2, b_idx, ix0, ix1, Bool.false_eq_true, reduceIte, b_isinst, b_len, b_all, b_any, b_tuple, b_list, b_append, b_pop, b_rev, b_int, b_isN, b_isNN, eT_sub, mkL_in, mkL_new, Bool.not_true, Bool.not_false, it_two, it_three, lenL, lenTu, mkLst_nil, mkTup3, isTL, isTT, go_assoc] <;> rfl) ⟨_, rfl, leave_wp0 rfl rfl ⟨rfl, rfl⟩⟩)))
end
end K82
set_option Elab.async false
set_option linter.all false
set_option maxRecDepth 100000
set_option maxHeartbeats 1000000
namespace K82
open PySem PC
theorem map_set {α : Type} {m k : Nat} {f : Nat → α} {x : α} (hk : k < m) : ((List.range m).map f).set k x = (List.range m).map (fun i => if i = k then x else f i) := by
  refine List.ext_getElem? fun c => ?_
  rw [List.getElem?_set, List.length_map, List.length_range]
  by_cases e : k = c
  · subst e
    rw [if_pos rfl, if_pos hk, get_range hk, if_pos rfl]
  · rw [if_neg e]
    by_cases hc : c < m
    · rw [get_range hc, get_range hc, if_neg (fun q => e q.symm)]
    · rw [List.getElem?_eq_none (by simp; omega), List.getElem?_eq_none (by simp; omega)]
theorem sl_ref {st : Store} {n : Nat} {xs : List D} {lo hi : Option Int} (h : st[n]? = some (.lst xs)) : sliceV false (.ref n) lo hi st = .ok (.lst (cut xs lo hi)) st := by
  unfold sliceV
  dsimp only
  rw [lst_ref h]; rfl
/-- the rows as a cell -/
def rws (m r : Nat) (W : Nat → Nat → Rat) : List D := (List.range m).map fun k => .lst (fr (r + 1) (W k))
theorem rws_set {m r k : Nat} {W : Nat → Nat → Rat} {u : Nat → Rat} (hk : k < m) : (rws m r W).set k (.lst (fr (r + 1) u)) = rws m r (fun i => if i = k then u else W i) := by
  unfold rws
  rw [map_set hk]
  refine List.map_congr_left fun i _ => ?_
  dsimp only
  by_cases e : i = k
  · rw [if_pos e, if_pos e]
  · rw [if_neg e, if_neg e]
theorem rws_get {m r k : Nat} {W : Nat → Nat → Rat} (hk : k < m) : (rws m r W)[k]? = some (.lst (fr (r + 1) (W k))) := get_range hk
theorem rws_len {m r : Nat} {W : Nat → Nat → Rat} : (rws m r W).length = m := by unfold rws; rw [List.length_map, List.length_range]
/-- what an elimination by columns keeps -/
structure Ech (V : Nat → Nat → Rat) (m r j at_ : Nat) (idx piv : Nat → Nat) (W : Nat → Nat → Rat) : Prop where
  eqv : ∀ y, (∀ k, k < m → ev r (W k) y = 0) ↔ (∀ i, i < m → ev r (V i) y = 0)
  ind : Indep V at_ idx piv
  ix : ∀ s, s < at_ → idx s < m
  pv : ∀ s, s < at_ → piv s < j
  red : ∀ k, at_ ≤ k → k < m → ∃ i, i < m ∧ Red V at_ idx piv i (W k)
  low : ∀ k, at_ ≤ k → k < m → ∀ c, c < j → W k c = 0
  one : ∀ s, s < at_ → W s (piv s) ≠ 0 ∧ ∀ k, s < k → k < m → W k (piv s) = 0
  le : at_ ≤ j
  lem : at_ ≤ m
theorem ech_start {V : Nat → Nat → Rat} {m r : Nat} {idx piv : Nat → Nat} : Ech V m r 0 0 idx piv V where
  eqv y := Iff.rfl
  ind := indep_zero
  ix s h := absurd h (Nat.not_lt_zero _)
  pv s h := absurd h (Nat.not_lt_zero _)
  red k _ hk := ⟨k, hk, red_zero⟩
  low k _ _ c hc := absurd hc (Nat.not_lt_zero _)
  one s h := absurd h (Nat.not_lt_zero _)
  le := Nat.le_refl _
  lem := Nat.zero_le _
section
variable {V : Nat → Nat → Rat} {m r j at_ : Nat} {idx piv : Nat → Nat} {W : Nat → Nat → Rat}
theorem Ech.skip (h : Ech V m r j at_ idx piv W) (h0 : ∀ k, at_ ≤ k → k < m → W k j = 0) : Ech V m r (j + 1) at_ idx piv W where
  eqv := h.eqv
  ind := h.ind
  ix := h.ix
  pv s hs := by have := h.pv s hs; omega
  red := h.red
  low k hk hm c hc := by
    by_cases e : c = j
    · rw [e]; exact h0 k hk hm
    · exact h.low k hk hm c (by omega)
  one := h.one
  le := by have := h.le; omega
  lem := h.lem
/-- the exchange of two rows -/
def swp (a f : Nat) (W : Nat → Nat → Rat) : Nat → Nat → Rat := fun k => if k = f then W a else if k = a then W f else W k
theorem swp_a {a f : Nat} : swp a f W a = W f := by
  unfold swp
  by_cases e : a = f
  · rw [if_pos e, e]
  · rw [if_neg e, if_pos rfl]
theorem Ech.swap (h : Ech V m r j at_ idx piv W) {f : Nat} (hf : at_ ≤ f) (hm : f < m) : Ech V m r j at_ idx piv (swp at_ f W) where
  eqv y := by
    rw [← h.eqv y]
    constructor
    · intro q k hk
      by_cases e : k = at_
      · subst e
        have := q f hm
        unfold swp at this
        rwa [if_pos rfl] at this
      · by_cases e2 : k = f
        · subst e2
          have := q at_ (by omega)
          rwa [swp_a] at this
        · have := q k hk
          unfold swp at this
          rwa [if_neg e2, if_neg e] at this
    · intro q k hk
      unfold swp
      split
      · exact q at_ (by omega)
      · split
        · exact q f hm
        · exact q k hk
  ind := h.ind
  ix := h.ix
  pv := h.pv
  red k hk hkm := by
    unfold swp
    split
    · exact h.red at_ (Nat.le_refl _) (by omega)
    · split
      · exact h.red f hf hm
      · exact h.red k hk hkm
  low k hk hkm := by
    unfold swp
    split
    · exact h.low at_ (Nat.le_refl _) (by omega)
    · split
      · exact h.low f hf hm
      · exact h.low k hk hkm
  one s hs := by
    have h1 := h.one s hs
    refine ⟨?_, fun k hk hkm => ?_⟩
    · unfold swp
      rw [if_neg (by omega), if_neg (by omega)]
      exact h1.1
    · unfold swp
      split
      · exact h1.2 at_ (by omega) (by omega)
      · split
        · exact h1.2 f (by omega) hm
        · exact h1.2 k hk hkm
  le := h.le
  lem := h.lem
/-- the rows below a head, cleared -/
def clr (a j t : Nat) (W : Nat → Nat → Rat) : Nat → Nat → Rat := fun k => if a < k ∧ k < t then fun c => W k c - W k j / W a j * W a c else W k
theorem ev_less {w : Nat} {u v y : Nat → Rat} {x : Rat} : ev w (fun c => u c - x * v c) y = ev w u y - x * ev w v y := by
  unfold ev
  rw [← sumR_mul, ← sumR_sub]
  exact sumR_ext _ fun c _ => by grind
theorem Ech.clear (h : Ech V m r j at_ idx piv W) (ha : at_ < m) (h0 : W at_ j ≠ 0) : ∃ idx' piv', Ech V m r (j + 1) (at_ + 1) idx' piv' (clr at_ j m W) := by
  obtain ⟨i, hi, hr⟩ := h.red at_ (Nat.le_refl _) ha
  refine ⟨put idx at_ i, put piv at_ j, ?_⟩
  have ca : clr at_ j m W at_ = W at_ := if_neg (by omega)
  have clo : ∀ k, k ≤ at_ → clr at_ j m W k = W k := fun k hk => if_neg (by omega)
  have chi : ∀ k, at_ < k → k < m → clr at_ j m W k = fun c => W k c - W k j / W at_ j * W at_ c := fun k hk hkm => if_pos ⟨hk, hkm⟩
  exact {
    eqv := fun y => by
      rw [← h.eqv y]
      constructor
      · intro q k hk
        have qa := q at_ ha
        rw [ca] at qa
        by_cases e : at_ < k
        · have := q k hk
          rw [chi k e hk, ev_less, qa] at this
          grind
        · have := q k hk
          rwa [clo k (by omega)] at this
      · intro q k hk
        by_cases e : at_ < k
        · rw [chi k e hk, ev_less, q at_ ha, q k hk]
          grind
        · rw [clo k (by omega)]; exact q k hk
    ind := indep_put h.ind hr h0
    ix := fun s hs => by
      by_cases e : s = at_
      · subst e; rw [put_eq]; exact hi
      · rw [put_lt (by omega)]; exact h.ix s (by omega)
    pv := fun s hs => by
      by_cases e : s = at_
      · subst e; rw [put_eq]; omega
      · rw [put_lt (by omega)]; have := h.pv s (by omega); omega
    red := fun k hk hkm => by
      obtain ⟨i', hi', hr'⟩ := h.red k (by omega) hkm
      refine ⟨i', hi', ?_⟩
      rw [chi k (by omega) hkm]
      exact hr'.less hr (by grind)
    low := fun k hk hkm c hc => by
      rw [chi k (by omega) hkm]
      show W k c - W k j / W at_ j * W at_ c = 0
      by_cases e : c = j
      · subst e; grind
      · rw [h.low k (by omega) hkm c (by omega), h.low at_ (Nat.le_refl _) ha c (by omega)]; grind
    one := fun s hs => by
      by_cases e : s = at_
      · subst e
        rw [put_eq, ca]
        refine ⟨h0, fun k hk hkm => ?_⟩
        rw [chi k hk hkm]
        show W k j - W k j / W s j * W s j = 0
        grind
      · rw [put_lt (by omega), clo s (by omega)]
        have h1 := h.one s (by omega)
        refine ⟨h1.1, fun k hk hkm => ?_⟩
        by_cases e2 : at_ < k
        · rw [chi k e2 hkm]
          show W k (piv s) - W k j / W at_ j * W at_ (piv s) = 0
          rw [h1.2 k hk hkm, h1.2 at_ (by omega) ha]
          grind
        · rw [clo k (by omega)]; exact h1.2 k hk hkm
    le := by have := h.le; omega
    lem := by omega }
/-- solvable, or not -/
theorem Ech.told (h : Ech V m r r at_ idx piv W) : (∀ k, at_ ≤ k → k < m → W k r = 0) ↔ ∃ y, y r = -1 ∧ ∀ i, i < m → ev r (V i) y = 0 := by
  constructor
  · intro h0
    have hT : Tri r at_ piv (fun s c => W s c / W s (piv s)) := fun s hs => by
      have h1 := h.one s hs
      refine ⟨h.pv s hs, ?_, fun t ht => ?_⟩
      · show W s (piv s) / W s (piv s) = 1
        have := h1.1
        grind
      · show W s (piv t) / W s (piv s) = 0
        rw [(h.one t (by omega)).2 s ht (by have := h.lem; omega)]
        grind
    obtain ⟨y, hy, hz⟩ := sol_exists hT at_ (Nat.le_refl _)
    refine ⟨y, hy.1, (h.eqv y).mp fun k hk => ?_⟩
    by_cases e : k < at_
    · have h1 := hz k (by omega) e
      have h2 : ev r (W k) y = W k (piv k) * ev r (fun c => W k c / W k (piv k)) y := by
        unfold ev
        rw [← sumR_mul]
        exact sumR_ext _ fun c _ => by
          have := (h.one k e).1
          grind
      rw [h2, h1]; grind
    · exact sumR_zero _ fun c hc => by
        by_cases e2 : c = r
        · rw [e2, h0 k (by omega) hk]; grind
        · rw [h.low k (by omega) hk c (by omega)]; grind
  · rintro ⟨y, hy, hV⟩ k hk hkm
    have h1 := (h.eqv y).mpr hV k hkm
    unfold ev at h1
    rw [sumR_succ, sumR_zero r (fun c hc => by rw [h.low k hk hkm c hc]; grind), hy] at h1
    grind
end
end K82

namespace K82
open PySem PC
section
variable {n B r k : Nat} {R : Int} {q : Nat → Rat} {st : Store}
theorem ech_sz (h : Row n B R q) (hβ : (r + 1) * ((2 * (r + 1) * B) ^ r * B) < 2 ^ 1000) {j at_ : Nat} {idx piv : Nat → Nat} {W : Nat → Nat → Rat} (hj : j ≤ r) (hE : Ech (fun i c => q (i + c)) (n - r) r j at_ idx piv W) {kk c : Nat} (h1 : at_ ≤ kk) (h2 : kk < n - r) (hc : c < r + 1) : Sz (W kk c) 1000 := by
  obtain ⟨i, hi, hr⟩ := hE.red kk h1 h2
  have hle := hE.le
  have hp : (2 * (at_ + 1) * B) ^ at_ ≤ (2 * (r + 1) * B) ^ r := pow_mono h.B1 (by omega)
  have hcd := red_bound (A := fun i c => if hh : i + c < n then (h.ov (i + c) hh).choose else 0) (W := n - r) (C := r + 1) h.R0 h.B1 (fun i c hi hc => by
        have hh : i + c < n := by omega
        rw [dif_pos hh]
        exact (h.ov (i + c) hh).choose_spec.2) (fun i c hi hc => by
        have hh : i + c < n := by omega
        rw [dif_pos hh]
        exact (h.ov (i + c) hh).choose_spec.1) hi hE.ix (fun t ht => by have := hE.pv t ht; omega) hE.ind hr
  refine hcd.sz hc (Nat.lt_of_le_of_lt ?_ hβ) (Nat.lt_of_le_of_lt ?_ hβ)
  · calc (2 * (at_ + 1) * B) ^ at_ * R.natAbs ≤ (2 * (r + 1) * B) ^ r * B := Nat.mul_le_mul hp h.RB
      _ = 1 * ((2 * (r + 1) * B) ^ r * B) := (Nat.one_mul _).symm
      _ ≤ _ := Nat.mul_le_mul_right _ (by omega)
  · exact Nat.mul_le_mul (by omega) (Nat.mul_le_mul_right _ hp)
/-- the rows below, one after the other -/
theorem solv_inner {m j a : Nat} {W : Nat → Nat → Rat} (hm : m ≤ 40) (hr : r ≤ 20) (ha : a < m) (hj : j < r) (h0 : W a j ≠ 0) (hsz : ∀ kk c, a ≤ kk → kk < m → c < r + 1 → Sz (W kk c) 1000) {r0 x5 x6 x7 : Option D} {Q : Fl → Store → Prop}
    (hQ : ∀ b6 b7, Q (.nx [r0, some (.int (r : Nat)), some (.ref st.length), some (.int (a : Nat)), some (.int (j : Nat)), x5, b6, b7, none, none]) (st ++ [.lst (rws m r (clr a j m W))])) :
    Wp (evS (callF tbl (k + 4)) (.for_ (.nm 6) (.rg2 (.bi (.add false) (.cons (.var 3) (.cons (.cst (.int 1)) .nil))) (.bi .len (.cons (.var 2) .nil))) (.seq (.asg (.nm 7) (.call 28 (.cons (.bi .idx (.cons (.bi .idx (.cons (.var 2) (.cons (.var 6) .nil))) (.cons (.var 4) .nil))) (.cons (.bi .idx (.cons (.bi .idx (.cons (.var 2) (.cons (.var 3) .nil))) (.cons (.var 4) .nil))) .nil)))) (.seq (.asg (.sub (.var 2) (.var 6)) (.comp false (.call 25 (.cons (.bi .idx (.cons (.bi .idx (.cons (.var 2) (.cons (.var 6) .nil))) (.cons (.var 8) .nil))) (.cons (.call 27 (.cons (.call 26 (.cons (.var 7) (.cons (.bi .idx (.cons (.bi .idx (.cons (.var 2) (.cons (.var 3) .nil))) (.cons (.var 8) .nil))) .nil))) .nil)) .nil))) [8] true (.rg1 (.bi (.add false) (.cons (.var 1) (.cons (.cst (.int 1)) .nil)))) (.cst (.bl true)))) .skip)))
      [r0, some (.int (r : Nat)), some (.ref st.length), some (.int (a : Nat)), some (.int (j : Nat)), x5, x6, x7, none, none] (st ++ [.lst (rws m r W)])) Q := by
  have hlen : ∀ W : Nat → Nat → Rat, lenV (.ref st.length) (st ++ [.lst (rws m r W)]) = .ok (.int (m : Nat)) (st ++ [.lst (rws m r W)]) := fun W => by
    rw [len_seq (seq_ref get_last) (fun _ e => nomatch e), rws_len]
  have hsrc := src_rg2 (cf := callF tbl (k + 4)) (ρ := [r0, some (.int (r : Nat)), some (.ref st.length), some (.int (a : Nat)), some (.int (j : Nat)), x5, x6, x7, none, none]) (st := st ++ [.lst (rws m r W)]) (a := .bi (.add false) (.cons (.var 3) (.cons (.cst (.int 1)) .nil))) (b := .bi .len (.cons (.var 2) .nil)) (n := a + 1) (m := m) (i := (a : Int) + 1) (j := (m : Nat)) (by simp only [eS_seq, eS_skip, eS_ret, eS_ex, eS_asg, eS_ite, eS_raise, eE_call, eE_bi, eE_var, eE_cst, eE_glo, eE_fnv, eE_tup, eE_lst, eE_and, eE_or, eE_not, eE_ite, eE_mth, eE_chain, eE_sl, intP, slT, eA_cons, eA_nil, eT_nm, eT_tup, eT_cons, eT_nil, go_ok, go_exc, go_stuck, gv0, gvS, List.set_cons_zero, List.set_cons_succ, b_add, b_sub, b_mul, b_fdiv, b_mod, b_neg, b_abs, b_lt, b_le, b_gt, b_ge, b_eqI, b_neI, b_max, b_min, asBool_bl, mkTup1, mkTup2, b_idx, ix0, ix1, Bool.false_eq_true, reduceIte, b_isinst, b_len, b_all, b_any, b_tuple, b_list, b_append, b_pop, b_rev, b_int, b_isN, b_isNN, eT_sub, mkL_in, mkL_new, Bool.not_true, Bool.not_false, it_two, it_three, lenL, lenTu, mkLst_nil, mkTup3, isTL, isTT, go_assoc] <;> rfl) (by simp only [eS_seq, eS_skip, eS_ret, eS_ex, eS_asg, eS_ite, eS_raise, eE_call, eE_bi, eE_var, eE_cst, eE_glo, eE_fnv, eE_tup, eE_lst, eE_and, eE_or, eE_not, eE_ite, eE_mth, eE_chain, eE_sl, intP, slT, eA_cons, eA_nil, eT_nm, eT_tup, eT_cons, eT_nil, go_ok, go_exc, go_stuck, gv0, gvS, List.set_cons_zero, List.set_cons_succ, b_add, b_sub, b_mul, b_fdiv, b_mod, b_neg, b_abs, b_lt, b_le, b_gt, b_ge, b_eqI, b_neI, b_max, b_min, asBool_bl, mkTup1, mkTup2, b_idx, ix0, ix1, Bool.false_eq_true, reduceIte, b_isinst, b_len, b_all, b_any, b_tuple, b_list, b_append, b_pop, b_rev, b_int, b_isN, b_isNN, eT_sub, mkL_in, mkL_new, Bool.not_true, Bool.not_false, it_two, it_three, lenL, lenTu, mkLst_nil, mkTup3, isTL, isTT, go_assoc, hlen] <;> rfl) (by omega) rfl (by omega) (by omega)
  have c0 : ∀ W : Nat → Nat → Rat, clr a j (a + 1) W = W := fun W => funext fun kk => if_neg (by omega)
  refine wp_range (n := m - (a + 1)) (g := fun i => ((a + 1 + i : Nat) : Int)) hsrc (fun t ρ st' => st' = st ++ [.lst (rws m r (clr a j (a + 1 + t) W))] ∧ ∃ b6 b7, ρ = [r0, some (.int (r : Nat)), some (.ref st.length), some (.int (a : Nat)), some (.int (j : Nat)), x5, b6, b7, none, none]) ?_ ?_ ?_
  · exact ⟨by rw [Nat.add_zero, c0], _, _, rfl⟩
  · rintro t ht ρ st' ⟨hst, b6, b7, rfl⟩
    subst hst
    have hk : a + 1 + t < m := by omega
    have e1 : clr a j (a + 1 + t) W (a + 1 + t) = W (a + 1 + t) := if_neg (by omega)
    have e2 : clr a j (a + 1 + t) W a = W a := if_neg (by omega)
    have s1 := seq_ref (get_last (st := st) (c := .lst (rws m r (clr a j (a + 1 + t) W))))
    have i1 := ix_seq s1 (rws_get (W := clr a j (a + 1 + t) W) hk)
    have i2 := ix_seq s1 (rws_get (W := clr a j (a + 1 + t) W) ha)
    rw [e1] at i1
    rw [e2] at i2
    have g1 : ∀ c, c < r + 1 → ∀ u st', idxV (.lst (fr (r + 1) u)) (.int (c : Nat)) st' = .ok (encR (u c)) st' := fun c hc u st' => ix_lst (fr_get hc)
    have z1 := hsz (a + 1 + t) j (by omega) hk (by omega)
    have z2 := hsz a j (Nat.le_refl _) ha (by omega)
    have ho := fun st' => lover_sz (k := k + 2) (st := st') z1 z2 h0 (by omega)
    simp only [List.set_cons_zero, List.set_cons_succ]
    refine wp_seq (wp_asgP (d := encR (W (a + 1 + t) j / W a j)) (by simp only [eS_seq, eS_skip, eS_ret, eS_ex, eS_asg, eS_ite, eS_raise, eE_call, eE_bi, eE_var, eE_cst, eE_glo, eE_fnv, eE_tup, eE_lst, eE_and, eE_or, eE_not, eE_ite, eE_mth, eE_chain, eE_sl, intP, slT, eA_cons, eA_nil, eT_nm, eT_tup, eT_cons, eT_nil, go_ok, go_exc, go_stuck, gv0, gvS, List.set_cons_zero, List.set_cons_succ, b_add, b_sub, b_mul, b_fdiv, b_mod, b_neg, b_abs, b_lt, b_le, b_gt, b_ge, b_eqI, b_neI, b_max, b_min, asBool_bl, mkTup1, mkTup2, b_idx, ix0, ix1, Bool.false_eq_true, reduceIte, b_isinst, b_len, b_all, b_any, b_tuple, b_list, b_append, b_pop, b_rev, b_int, b_isN, b_isNN, eT_sub, mkL_in, mkL_new, Bool.not_true, Bool.not_false, it_two, it_three, lenL, lenTu, mkLst_nil, mkTup3, isTL, isTT, go_assoc, i1, i2, g1 j (by omega), ho] <;> rfl) ?_)
    have hset := setItem_ref (x := .lst (fr (r + 1) (fun c => W (a + 1 + t) c - W (a + 1 + t) j / W a j * W a c))) (get_last (st := st) (c := .lst (rws m r (clr a j (a + 1 + t) W)))) (i := a + 1 + t) (by rw [rws_len]; exact hk)
    have hW : (fun i => if i = a + 1 + t then (fun c => W (a + 1 + t) c - W (a + 1 + t) j / W a j * W a c) else clr a j (a + 1 + t) W i) = clr a j (a + 1 + (t + 1)) W := funext fun i => by
      by_cases e : i = a + 1 + t
      · subst e
        rw [if_pos rfl]
        unfold clr
        rw [if_pos (by omega)]
      · rw [if_neg e]
        unfold clr
        by_cases e3 : a < i ∧ i < a + 1 + t
        · rw [if_pos e3, if_pos (by omega)]
        · rw [if_neg e3, if_neg (by omega)]
    rw [set_last, rws_set hk, hW] at hset
    refine wp_seq (wp_asgT (d := .lst (fr (r + 1) (fun c => W (a + 1 + t) c - W (a + 1 + t) j / W a j * W a c))) (st' := st ++ [.lst (rws m r (clr a j (a + 1 + t) W))]) ?_ (st2 := st ++ [.lst (rws m r (clr a j (a + 1 + (t + 1)) W))]) (by simp only [eS_seq, eS_skip, eS_ret, eS_ex, eS_asg, eS_ite, eS_raise, eE_call, eE_bi, eE_var, eE_cst, eE_glo, eE_fnv, eE_tup, eE_lst, eE_and, eE_or, eE_not, eE_ite, eE_mth, eE_chain, eE_sl, intP, slT, eA_cons, eA_nil, eT_nm, eT_tup, eT_cons, eT_nil, go_ok, go_exc, go_stuck, gv0, gvS, List.set_cons_zero, List.set_cons_succ, b_add, b_sub, b_mul, b_fdiv, b_mod, b_neg, b_abs, b_lt, b_le, b_gt, b_ge, b_eqI, b_neI, b_max, b_min, asBool_bl, mkTup1, mkTup2, b_idx, ix0, ix1, Bool.false_eq_true, reduceIte, b_isinst, b_len, b_all, b_any, b_tuple, b_list, b_append, b_pop, b_rev, b_int, b_isN, b_isNN, eT_sub, mkL_in, mkL_new, Bool.not_true, Bool.not_false, it_two, it_three, lenL, lenTu, mkLst_nil, mkTup3, isTL, isTT, go_assoc, hset] <;> rfl) ?_)
    · refine comp_range (n := r + 1) (g := fun i => (i : Int)) (r := fun c => encR (W (a + 1 + t) c - W (a + 1 + t) j / W a j * W a c)) (src_rg1 (n := r + 1) (i := (r : Int) + 1) (by simp only [eS_seq, eS_skip, eS_ret, eS_ex, eS_asg, eS_ite, eS_raise, eE_call, eE_bi, eE_var, eE_cst, eE_glo, eE_fnv, eE_tup, eE_lst, eE_and, eE_or, eE_not, eE_ite, eE_mth, eE_chain, eE_sl, intP, slT, eA_cons, eA_nil, eT_nm, eT_tup, eT_cons, eT_nil, go_ok, go_exc, go_stuck, gv0, gvS, List.set_cons_zero, List.set_cons_succ, b_add, b_sub, b_mul, b_fdiv, b_mod, b_neg, b_abs, b_lt, b_le, b_gt, b_ge, b_eqI, b_neI, b_max, b_min, asBool_bl, mkTup1, mkTup2, b_idx, ix0, ix1, Bool.false_eq_true, reduceIte, b_isinst, b_len, b_all, b_any, b_tuple, b_list, b_append, b_pop, b_rev, b_int, b_isN, b_isNN, eT_sub, mkL_in, mkL_new, Bool.not_true, Bool.not_false, it_two, it_three, lenL, lenTu, mkLst_nil, mkTup3, isTL, isTT, go_assoc] <;> rfl) (by omega) (by omega)) (fun c hc => ?_) (by omega)
      have zc := z1.div z2 (by omega)
      have h1 := fun st' => lmul_sz (k := k + 2) (st := st') zc (hsz a c (Nat.le_refl _) ha hc) (by omega)
      have h2 := fun st' => lneg_c (k := k + 3) (p := W (a + 1 + t) j / W a j * W a c) (st := st')
      have h3 := fun st' => ladd_sz (k := k + 2) (st := st') (hsz (a + 1 + t) c (by omega) hk hc) (zc.mul (hsz a c (Nat.le_refl _) ha hc)).neg (by omega)
      simp only [eS_seq, eS_skip, eS_ret, eS_ex, eS_asg, eS_ite, eS_raise, eE_call, eE_bi, eE_var, eE_cst, eE_glo, eE_fnv, eE_tup, eE_lst, eE_and, eE_or, eE_not, eE_ite, eE_mth, eE_chain, eE_sl, intP, slT, eA_cons, eA_nil, eT_nm, eT_tup, eT_cons, eT_nil, go_ok, go_exc, go_stuck, gv0, gvS, List.set_cons_zero, List.set_cons_succ, b_add, b_sub, b_mul, b_fdiv, b_mod, b_neg, b_abs, b_lt, b_le, b_gt, b_ge, b_eqI, b_neI, b_max, b_min, asBool_bl, mkTup1, mkTup2, b_idx, ix0, ix1, Bool.false_eq_true, reduceIte, b_isinst, b_len, b_all, b_any, b_tuple, b_list, b_append, b_pop, b_rev, b_int, b_isN, b_isNN, eT_sub, mkL_in, mkL_new, Bool.not_true, Bool.not_false, it_two, it_three, lenL, lenTu, mkLst_nil, mkTup3, isTL, isTT, go_assoc, i1, i2, g1 c hc, h1, h2, h3, Rat.sub_eq_add_neg]
    · exact wp_skip ⟨rfl, _, _, rfl⟩
  · rintro ρ st' ⟨hst, b6, b7, rfl⟩
    have e : a + 1 + (m - (a + 1)) = m := by omega
    rw [hst, e]
    exact hQ _ _
end
end K82
namespace K82
open PySem PC
theorem filt_nil {m : Nat} {p : Nat → Bool} (h : (List.range m).filter p = []) : ∀ c, c < m → p c = false := fun c hc => by
  cases e : p c with
  | false => rfl
  | true =>
    have : c ∈ (List.range m).filter p := List.mem_filter.mpr ⟨List.mem_range.mpr hc, e⟩
    rw [h] at this
    cases this
theorem filt_cons {m a : Nat} {l : List Nat} {p : Nat → Bool} (h : (List.range m).filter p = a :: l) : a < m ∧ p a = true := by
  have : a ∈ (List.range m).filter p := by rw [h]; exact List.mem_cons_self
  rw [List.mem_filter] at this
  exact ⟨List.mem_range.mp this.1, this.2⟩
section
variable {n B r k : Nat} {R : Int} {q : Nat → Rat} {st : Store}
def Solv (n r : Nat) (q : Nat → Rat) : Prop := ∃ y, y r = -1 ∧ ∀ i, i < n - r → ev r (fun c => q (i + c)) y = 0
theorem solvable_call (h : Row n B R q) (hr : r ≤ 20) (hβ : (r + 1) * ((2 * (r + 1) * B) ^ r * B) < 2 ^ 1000) :
    Wp (callF tbl (k + 5) 35 [.tup (fr n q), .int (r : Nat)] st) fun d st' => st' = st ∧ ∃ b, d = .bl b ∧ (b = true ↔ Solv n r q) := by
  have hn := h.n40
  refine call_wp (d := d__law_solvable) rfl rfl rfl ?_
  show Wp (evS (callF tbl (k + 4)) b__law_solvable [some (.tup (fr n q)), some (.int (r : Nat)), none, none, none, none, none, none, none, none] st) _
  unfold b__law_solvable
  have hmax : max2 ((n : Int) - (r : Int)) 0 = ((n - r : Nat) : Int) := by unfold max2; split <;> omega
  refine wp_seq (wp_asg (d := .ref st.length) (st' := st ++ [.lst (rws (n - r) r (fun i c => q (i + c)))]) (Wp.eq ?_) ?_)
  · refine wp_comp (xs := (List.range (n - r)).map fun i : Nat => D.int (i : Int)) (src_rg1 (n := n - r) (i := ((n - r : Nat) : Int)) (by simp only [eS_seq, eS_skip, eS_ret, eS_ex, eS_asg, eS_ite, eS_raise, eE_call, eE_bi, eE_var, eE_cst, eE_glo, eE_fnv, eE_tup, eE_lst, eE_and, eE_or, eE_not, eE_ite, eE_mth, eE_chain, eE_sl, intP, slT, eA_cons, eA_nil, eT_nm, eT_tup, eT_cons, eT_nil, go_ok, go_exc, go_stuck, gv0, gvS, List.set_cons_zero, List.set_cons_succ, b_add, b_sub, b_mul, b_fdiv, b_mod, b_neg, b_abs, b_lt, b_le, b_gt, b_ge, b_eqI, b_neI, b_max, b_min, asBool_bl, mkTup1, mkTup2, b_idx, ix0, ix1, Bool.false_eq_true, reduceIte, b_isinst, b_len, b_all, b_any, b_tuple, b_list, b_append, b_pop, b_rev, b_int, b_isN, b_isNN, eT_sub, mkL_in, mkL_new, Bool.not_true, Bool.not_false, it_two, it_three, lenL, lenTu, mkLst_nil, mkTup3, isTL, isTT, go_assoc, fr_len, hmax] <;> rfl) rfl (by omega)) (fun i acc st' => st' = st ∧ acc = (List.range i).map fun i => D.lst (fr (r + 1) (fun c => q (i + c)))) ⟨rfl, rfl⟩ ?_ ?_
    · rintro i x hx acc st' ⟨hst, rfl⟩
      subst hst
      obtain ⟨hi, rfl⟩ := get_range_some hx
      have hc : cut (fr n q) (some (i : Int)) (some ((i : Int) + (r : Int) + 1)) = fr (r + 1) (fun c => q (i + c)) := by
        rw [cut_nat (i := i) (n := r + 1) rfl (by omega) (by rw [fr_len]; omega), fr_cut (by omega)]
      have hl : ∀ xs : List D, ∀ st, listV false (.tup xs) st = .ok (.lst xs) st := fun _ _ => rfl
      refine Wp.of (cBody_one (y := .lst (fr (r + 1) (fun c => q (i + c)))) (by simp only [eS_seq, eS_skip, eS_ret, eS_ex, eS_asg, eS_ite, eS_raise, eE_call, eE_bi, eE_var, eE_cst, eE_glo, eE_fnv, eE_tup, eE_lst, eE_and, eE_or, eE_not, eE_ite, eE_mth, eE_chain, eE_sl, intP, slT, eA_cons, eA_nil, eT_nm, eT_tup, eT_cons, eT_nil, go_ok, go_exc, go_stuck, gv0, gvS, List.set_cons_zero, List.set_cons_succ, b_add, b_sub, b_mul, b_fdiv, b_mod, b_neg, b_abs, b_lt, b_le, b_gt, b_ge, b_eqI, b_neI, b_max, b_min, asBool_bl, mkTup1, mkTup2, b_idx, ix0, ix1, Bool.false_eq_true, reduceIte, b_isinst, b_len, b_all, b_any, b_tuple, b_list, b_append, b_pop, b_rev, b_int, b_isN, b_isNN, eT_sub, mkL_in, mkL_new, Bool.not_true, Bool.not_false, it_two, it_three, lenL, lenTu, mkLst_nil, mkTup3, isTL, isTT, go_assoc, hc, hl] <;> rfl)) ⟨rfl, ?_⟩
      rw [List.range_succ, List.map_append]; rfl
    · rintro acc st' ⟨hst, rfl⟩
      subst hst
      rw [List.length_map, List.length_range, List.length_map, List.length_range]
      exact ⟨by omega, _, _, rfl, rfl, rfl⟩
  refine wp_seq (wp_asgP (d := .int ((0 : Nat) : Int)) (by simp only [eS_seq, eS_skip, eS_ret, eS_ex, eS_asg, eS_ite, eS_raise, eE_call, eE_bi, eE_var, eE_cst, eE_glo, eE_fnv, eE_tup, eE_lst, eE_and, eE_or, eE_not, eE_ite, eE_mth, eE_chain, eE_sl, intP, slT, eA_cons, eA_nil, eT_nm, eT_tup, eT_cons, eT_nil, go_ok, go_exc, go_stuck, gv0, gvS, List.set_cons_zero, List.set_cons_succ, b_add, b_sub, b_mul, b_fdiv, b_mod, b_neg, b_abs, b_lt, b_le, b_gt, b_ge, b_eqI, b_neI, b_max, b_min, asBool_bl, mkTup1, mkTup2, b_idx, ix0, ix1, Bool.false_eq_true, reduceIte, b_isinst, b_len, b_all, b_any, b_tuple, b_list, b_append, b_pop, b_rev, b_int, b_isN, b_isNN, eT_sub, mkL_in, mkL_new, Bool.not_true, Bool.not_false, it_two, it_three, lenL, lenTu, mkLst_nil, mkTup3, isTL, isTT, go_assoc] <;> rfl) ?_)
  refine wp_seq (wp_range (n := r) (g := fun i => (i : Int)) (src_rg1 (n := r) rfl rfl (by omega)) (fun j ρ st' => ∃ a idx piv W, Ech (fun i c => q (i + c)) (n - r) r j a idx piv W ∧ st' = st ++ [.lst (rws (n - r) r W)] ∧ ∃ x4 x5 x6 x7, ρ = [some (.tup (fr n q)), some (.int (r : Nat)), some (.ref st.length), some (.int (a : Nat)), x4, x5, x6, x7, none, none]) ?_ ?_ ?_)
  · exact ⟨0, fun _ => 0, fun _ => 0, _, ech_start, rfl, _, _, _, _, rfl⟩
  · rintro j hj ρ st' ⟨a, idx, piv, W, hE, hst, x4, x5, x6, x7, rfl⟩
    subst hst
    have hsz := fun kk c h1 h2 h3 => ech_sz h hβ (Nat.le_of_lt hj) hE (kk := kk) (c := c) h1 h2 h3
    have g1 : ∀ c, c < r + 1 → ∀ u st', idxV (.lst (fr (r + 1) u)) (.int (c : Nat)) st' = .ok (encR (u c)) st' := fun c hc u st' => ix_lst (fr_get hc)
    have hz : ∀ (x : Rat) st', biV .ne [.int x.num, .int 0] st' = .ok (.bl (!decide (x = 0))) st' := fun x st' => by rw [b_neI, enc_num0]
    have he0 : ∀ (x : Rat) st', idxV (encR x) (.int 0) st' = .ok (.int x.num) st' := fun x st' => ix0
    have hlen : ∀ W : Nat → Nat → Rat, lenV (.ref st.length) (st ++ [.lst (rws (n - r) r W)]) = .ok (.int ((n - r : Nat) : Int)) (st ++ [.lst (rws (n - r) r W)]) := fun W => by
      rw [len_seq (seq_ref get_last) (fun _ e => nomatch e), rws_len]
    have hlem := hE.lem
    simp only [List.set_cons_zero, List.set_cons_succ]
    refine wp_seq (wp_asgP (d := .lst (((List.range (n - r - a)).filter (fun i => !decide (W (a + i) j = 0))).map fun i : Nat => D.int ((a + i : Nat) : Int))) ?_ ?_)
    · refine comp_test (zs := List.range (n - r - a)) (e := fun i : Nat => D.int ((a + i : Nat) : Int)) (r := fun i : Nat => D.int ((a + i : Nat) : Int)) (p := fun i => !decide (W (a + i) j = 0)) (src_rg2 (n := a) (m := n - r) (by simp only [eS_seq, eS_skip, eS_ret, eS_ex, eS_asg, eS_ite, eS_raise, eE_call, eE_bi, eE_var, eE_cst, eE_glo, eE_fnv, eE_tup, eE_lst, eE_and, eE_or, eE_not, eE_ite, eE_mth, eE_chain, eE_sl, intP, slT, eA_cons, eA_nil, eT_nm, eT_tup, eT_cons, eT_nil, go_ok, go_exc, go_stuck, gv0, gvS, List.set_cons_zero, List.set_cons_succ, b_add, b_sub, b_mul, b_fdiv, b_mod, b_neg, b_abs, b_lt, b_le, b_gt, b_ge, b_eqI, b_neI, b_max, b_min, asBool_bl, mkTup1, mkTup2, b_idx, ix0, ix1, Bool.false_eq_true, reduceIte, b_isinst, b_len, b_all, b_any, b_tuple, b_list, b_append, b_pop, b_rev, b_int, b_isN, b_isNN, eT_sub, mkL_in, mkL_new, Bool.not_true, Bool.not_false, it_two, it_three, lenL, lenTu, mkLst_nil, mkTup3, isTL, isTT, go_assoc] <;> rfl) (by simp only [eS_seq, eS_skip, eS_ret, eS_ex, eS_asg, eS_ite, eS_raise, eE_call, eE_bi, eE_var, eE_cst, eE_glo, eE_fnv, eE_tup, eE_lst, eE_and, eE_or, eE_not, eE_ite, eE_mth, eE_chain, eE_sl, intP, slT, eA_cons, eA_nil, eT_nm, eT_tup, eT_cons, eT_nil, go_ok, go_exc, go_stuck, gv0, gvS, List.set_cons_zero, List.set_cons_succ, b_add, b_sub, b_mul, b_fdiv, b_mod, b_neg, b_abs, b_lt, b_le, b_gt, b_ge, b_eqI, b_neI, b_max, b_min, asBool_bl, mkTup1, mkTup2, b_idx, ix0, ix1, Bool.false_eq_true, reduceIte, b_isinst, b_len, b_all, b_any, b_tuple, b_list, b_append, b_pop, b_rev, b_int, b_isN, b_isNN, eT_sub, mkL_in, mkL_new, Bool.not_true, Bool.not_false, it_two, it_three, lenL, lenTu, mkLst_nil, mkTup3, isTL, isTT, go_assoc, hlen] <;> rfl) rfl rfl (by omega) (by omega)) (fun i hi => ?_) (fun i hi _ => (by simp only [eS_seq, eS_skip, eS_ret, eS_ex, eS_asg, eS_ite, eS_raise, eE_call, eE_bi, eE_var, eE_cst, eE_glo, eE_fnv, eE_tup, eE_lst, eE_and, eE_or, eE_not, eE_ite, eE_mth, eE_chain, eE_sl, intP, slT, eA_cons, eA_nil, eT_nm, eT_tup, eT_cons, eT_nil, go_ok, go_exc, go_stuck, gv0, gvS, List.set_cons_zero, List.set_cons_succ, b_add, b_sub, b_mul, b_fdiv, b_mod, b_neg, b_abs, b_lt, b_le, b_gt, b_ge, b_eqI, b_neI, b_max, b_min, asBool_bl, mkTup1, mkTup2, b_idx, ix0, ix1, Bool.false_eq_true, reduceIte, b_isinst, b_len, b_all, b_any, b_tuple, b_list, b_append, b_pop, b_rev, b_int, b_isN, b_isNN, eT_sub, mkL_in, mkL_new, Bool.not_true, Bool.not_false, it_two, it_three, lenL, lenTu, mkLst_nil, mkTup3, isTL, isTT, go_assoc] <;> rfl)) (by rw [List.length_range]; omega)
      have hi := List.mem_range.mp hi
      have i1 := ix_seq (seq_ref (get_last (st := st) (c := .lst (rws (n - r) r W)))) (rws_get (W := W) (show a + i < n - r by omega))
      simp only [eS_seq, eS_skip, eS_ret, eS_ex, eS_asg, eS_ite, eS_raise, eE_call, eE_bi, eE_var, eE_cst, eE_glo, eE_fnv, eE_tup, eE_lst, eE_and, eE_or, eE_not, eE_ite, eE_mth, eE_chain, eE_sl, intP, slT, eA_cons, eA_nil, eT_nm, eT_tup, eT_cons, eT_nil, go_ok, go_exc, go_stuck, gv0, gvS, List.set_cons_zero, List.set_cons_succ, b_add, b_sub, b_mul, b_fdiv, b_mod, b_neg, b_abs, b_lt, b_le, b_gt, b_ge, b_eqI, b_neI, b_max, b_min, asBool_bl, mkTup1, mkTup2, b_idx, ix0, ix1, Bool.false_eq_true, reduceIte, b_isinst, b_len, b_all, b_any, b_tuple, b_list, b_append, b_pop, b_rev, b_int, b_isN, b_isNN, eT_sub, mkL_in, mkL_new, Bool.not_true, Bool.not_false, it_two, it_three, lenL, lenTu, mkLst_nil, mkTup3, isTL, isTT, go_assoc, i1, g1 j (by omega), he0, hz]
    · rcases hh : (List.range (n - r - a)).filter (fun i => !decide (W (a + i) j = 0)) with _ | ⟨f, rest⟩
      · refine wp_seq (wp_iteF (by simp only [eS_seq, eS_skip, eS_ret, eS_ex, eS_asg, eS_ite, eS_raise, eE_call, eE_bi, eE_var, eE_cst, eE_glo, eE_fnv, eE_tup, eE_lst, eE_and, eE_or, eE_not, eE_ite, eE_mth, eE_chain, eE_sl, intP, slT, eA_cons, eA_nil, eT_nm, eT_tup, eT_cons, eT_nil, go_ok, go_exc, go_stuck, gv0, gvS, List.set_cons_zero, List.set_cons_succ, b_add, b_sub, b_mul, b_fdiv, b_mod, b_neg, b_abs, b_lt, b_le, b_gt, b_ge, b_eqI, b_neI, b_max, b_min, asBool_bl, mkTup1, mkTup2, b_idx, ix0, ix1, Bool.false_eq_true, reduceIte, b_isinst, b_len, b_all, b_any, b_tuple, b_list, b_append, b_pop, b_rev, b_int, b_isN, b_isNN, eT_sub, mkL_in, mkL_new, Bool.not_true, Bool.not_false, it_two, it_three, lenL, lenTu, mkLst_nil, mkTup3, isTL, isTT, go_assoc] <;> rfl) (wp_skip (wp_skip ?_)))
        refine ⟨a, idx, piv, W, hE.skip fun kk h1 h2 => ?_, rfl, _, _, _, _, rfl⟩
        have := filt_nil hh (kk - a) (by omega)
        rw [show a + (kk - a) = kk by omega] at this
        simpa using this
      · obtain ⟨hf, hf0⟩ := filt_cons hh
        have hne : W (a + f) j ≠ 0 := by simpa using hf0
        have hgt : decide ((0 : Int) < (((f :: rest).map fun i : Nat => D.int ((a + i : Nat) : Int)).length : Int)) = true := by simp
        have hih : ∀ (xs : List D) st', idxV (.lst (D.int ((a + f : Nat) : Int) :: xs)) (.int 0) st' = .ok (.int ((a + f : Nat) : Int)) st' := fun xs st' => ix_lst (i := 0) rfl
        refine wp_seq (wp_iteT (by simp only [eS_seq, eS_skip, eS_ret, eS_ex, eS_asg, eS_ite, eS_raise, eE_call, eE_bi, eE_var, eE_cst, eE_glo, eE_fnv, eE_tup, eE_lst, eE_and, eE_or, eE_not, eE_ite, eE_mth, eE_chain, eE_sl, intP, slT, eA_cons, eA_nil, eT_nm, eT_tup, eT_cons, eT_nil, go_ok, go_exc, go_stuck, gv0, gvS, List.set_cons_zero, List.set_cons_succ, b_add, b_sub, b_mul, b_fdiv, b_mod, b_neg, b_abs, b_lt, b_le, b_gt, b_ge, b_eqI, b_neI, b_max, b_min, asBool_bl, mkTup1, mkTup2, b_idx, ix0, ix1, Bool.false_eq_true, reduceIte, b_isinst, b_len, b_all, b_any, b_tuple, b_list, b_append, b_pop, b_rev, b_int, b_isN, b_isNN, eT_sub, mkL_in, mkL_new, Bool.not_true, Bool.not_false, it_two, it_three, lenL, lenTu, mkLst_nil, mkTup3, isTL, isTT, go_assoc, hgt] <;> rfl) ?_)
        have hS := hE.swap (f := a + f) (by omega) (by omega)
        have s1 := seq_ref (get_last (st := st) (c := .lst (rws (n - r) r W)))
        have i1 := ix_seq s1 (rws_get (W := W) (show a + f < n - r by omega))
        have i2 := ix_seq s1 (rws_get (W := W) (show a < n - r by omega))
        have t1 := setItem_ref (x := .lst (fr (r + 1) (W (a + f)))) (get_last (st := st) (c := .lst (rws (n - r) r W))) (i := a) (by rw [rws_len]; omega)
        rw [set_last, rws_set (by omega)] at t1
        have t2 := setItem_ref (x := .lst (fr (r + 1) (W a))) (get_last (st := st) (c := .lst (rws (n - r) r (fun i => if i = a then W (a + f) else W i)))) (i := a + f) (by rw [rws_len]; omega)
        rw [set_last, rws_set (by omega)] at t2
        have hW : (fun i => if i = a + f then W a else if i = a then W (a + f) else W i) = swp a (a + f) W := rfl
        rw [hW] at t2
        refine wp_seq (wp_asgT (d := .tup [.lst (fr (r + 1) (W (a + f))), .lst (fr (r + 1) (W a))]) (st' := st ++ [.lst (rws (n - r) r W)]) (by simp only [eS_seq, eS_skip, eS_ret, eS_ex, eS_asg, eS_ite, eS_raise, eE_call, eE_bi, eE_var, eE_cst, eE_glo, eE_fnv, eE_tup, eE_lst, eE_and, eE_or, eE_not, eE_ite, eE_mth, eE_chain, eE_sl, intP, slT, eA_cons, eA_nil, eT_nm, eT_tup, eT_cons, eT_nil, go_ok, go_exc, go_stuck, gv0, gvS, List.set_cons_zero, List.set_cons_succ, b_add, b_sub, b_mul, b_fdiv, b_mod, b_neg, b_abs, b_lt, b_le, b_gt, b_ge, b_eqI, b_neI, b_max, b_min, asBool_bl, mkTup1, mkTup2, b_idx, ix0, ix1, Bool.false_eq_true, reduceIte, b_isinst, b_len, b_all, b_any, b_tuple, b_list, b_append, b_pop, b_rev, b_int, b_isN, b_isNN, eT_sub, mkL_in, mkL_new, Bool.not_true, Bool.not_false, it_two, it_three, lenL, lenTu, mkLst_nil, mkTup3, isTL, isTT, go_assoc, List.map_cons, hih, i1, i2] <;> rfl) (st2 := st ++ [.lst (rws (n - r) r (swp a (a + f) W))]) (by simp only [eS_seq, eS_skip, eS_ret, eS_ex, eS_asg, eS_ite, eS_raise, eE_call, eE_bi, eE_var, eE_cst, eE_glo, eE_fnv, eE_tup, eE_lst, eE_and, eE_or, eE_not, eE_ite, eE_mth, eE_chain, eE_sl, intP, slT, eA_cons, eA_nil, eT_nm, eT_tup, eT_cons, eT_nil, go_ok, go_exc, go_stuck, gv0, gvS, List.set_cons_zero, List.set_cons_succ, b_add, b_sub, b_mul, b_fdiv, b_mod, b_neg, b_abs, b_lt, b_le, b_gt, b_ge, b_eqI, b_neI, b_max, b_min, asBool_bl, mkTup1, mkTup2, b_idx, ix0, ix1, Bool.false_eq_true, reduceIte, b_isinst, b_len, b_all, b_any, b_tuple, b_list, b_append, b_pop, b_rev, b_int, b_isN, b_isNN, eT_sub, mkL_in, mkL_new, Bool.not_true, Bool.not_false, it_two, it_three, lenL, lenTu, mkLst_nil, mkTup3, isTL, isTT, go_assoc, List.map_cons, hih, t1, t2] <;> rfl) ?_)
        refine wp_seq (solv_inner (W := swp a (a + f) W) (by omega) hr (by omega) hj (by rw [swp_a]; exact hne) (fun kk c h1 h2 h3 => ech_sz h hβ (Nat.le_of_lt hj) hS h1 h2 h3) ?_)
        intro b6 b7
        refine wp_seq (wp_asgP (d := .int ((a + 1 : Nat) : Int)) (by simp only [eS_seq, eS_skip, eS_ret, eS_ex, eS_asg, eS_ite, eS_raise, eE_call, eE_bi, eE_var, eE_cst, eE_glo, eE_fnv, eE_tup, eE_lst, eE_and, eE_or, eE_not, eE_ite, eE_mth, eE_chain, eE_sl, intP, slT, eA_cons, eA_nil, eT_nm, eT_tup, eT_cons, eT_nil, go_ok, go_exc, go_stuck, gv0, gvS, List.set_cons_zero, List.set_cons_succ, b_add, b_sub, b_mul, b_fdiv, b_mod, b_neg, b_abs, b_lt, b_le, b_gt, b_ge, b_eqI, b_neI, b_max, b_min, asBool_bl, mkTup1, mkTup2, b_idx, ix0, ix1, Bool.false_eq_true, reduceIte, b_isinst, b_len, b_all, b_any, b_tuple, b_list, b_append, b_pop, b_rev, b_int, b_isN, b_isNN, eT_sub, mkL_in, mkL_new, Bool.not_true, Bool.not_false, it_two, it_three, lenL, lenTu, mkLst_nil, mkTup3, isTL, isTT, go_assoc, Int.natCast_add, Int.natCast_one] <;> rfl) (wp_skip (wp_skip ?_)))
        obtain ⟨idx', piv', hC⟩ := hS.clear (by omega) (by rw [swp_a]; exact hne)
        exact ⟨a + 1, idx', piv', _, hC, rfl, _, _, _, _, rfl⟩
  · rintro ρ st' ⟨a, idx, piv, W, hE, hst, x4, x5, x6, x7, rfl⟩
    subst hst
    have g1 : ∀ c, c < r + 1 → ∀ u st', idxV (.lst (fr (r + 1) u)) (.int (c : Nat)) st' = .ok (encR (u c)) st' := fun c hc u st' => ix_lst (fr_get hc)
    have hz : ∀ (x : Rat) st', biV .ne [.int x.num, .int 0] st' = .ok (.bl (!decide (x = 0))) st' := fun x st' => by rw [b_neI, enc_num0]
    have he0 : ∀ (x : Rat) st', idxV (encR x) (.int 0) st' = .ok (.int x.num) st' := fun x st' => ix0
    have hcut : cut (rws (n - r) r W) (some (a : Int)) none = (List.range (n - r - a)).map fun i => D.lst (fr (r + 1) (W (a + i))) := by
      rw [cut_from (i := a) rfl]
      refine List.ext_getElem? fun c => ?_
      rw [List.getElem?_drop]
      have hlem := hE.lem
      by_cases hc : c < n - r - a
      · rw [get_range hc, rws_get (by omega)]
      · rw [List.getElem?_eq_none (by rw [rws_len]; omega), List.getElem?_eq_none (by simp; omega)]
    have hsl := fun lo hi => sl_ref (lo := lo) (hi := hi) (get_last (st := st) (c := .lst (rws (n - r) r W)))
    refine wp_seq (wp_ret (d := .bl (((((List.range (n - r - a)).filter (fun i => !decide (W (a + i) r = 0))).map fun i => D.lst (fr (r + 1) (W (a + i)))).length : Int) == 0)) (st' := st ++ [.lst (rws (n - r) r W)]) (Wp.eq ?_) ?_)
    · simp only [eS_seq, eS_skip, eS_ret, eS_ex, eS_asg, eS_ite, eS_raise, eE_call, eE_bi, eE_var, eE_cst, eE_glo, eE_fnv, eE_tup, eE_lst, eE_and, eE_or, eE_not, eE_ite, eE_mth, eE_chain, eE_sl, intP, slT, eA_cons, eA_nil, eT_nm, eT_tup, eT_cons, eT_nil, go_ok, go_exc, go_stuck, gv0, gvS, List.set_cons_zero, List.set_cons_succ, b_add, b_sub, b_mul, b_fdiv, b_mod, b_neg, b_abs, b_lt, b_le, b_gt, b_ge, b_eqI, b_neI, b_max, b_min, asBool_bl, mkTup1, mkTup2, b_idx, ix0, ix1, Bool.false_eq_true, reduceIte, b_isinst, b_len, b_all, b_any, b_tuple, b_list, b_append, b_pop, b_rev, b_int, b_isN, b_isNN, eT_sub, mkL_in, mkL_new, Bool.not_true, Bool.not_false, it_two, it_three, lenL, lenTu, mkLst_nil, mkTup3, isTL, isTT, go_assoc]
      refine Wp.on (comp_test (zs := List.range (n - r - a)) (e := fun i => D.lst (fr (r + 1) (W (a + i)))) (r := fun i => D.lst (fr (r + 1) (W (a + i)))) (p := fun i => !decide (W (a + i) r = 0)) ?_ (fun i hi => ?_) (fun i hi _ => (by simp only [eS_seq, eS_skip, eS_ret, eS_ex, eS_asg, eS_ite, eS_raise, eE_call, eE_bi, eE_var, eE_cst, eE_glo, eE_fnv, eE_tup, eE_lst, eE_and, eE_or, eE_not, eE_ite, eE_mth, eE_chain, eE_sl, intP, slT, eA_cons, eA_nil, eT_nm, eT_tup, eT_cons, eT_nil, go_ok, go_exc, go_stuck, gv0, gvS, List.set_cons_zero, List.set_cons_succ, b_add, b_sub, b_mul, b_fdiv, b_mod, b_neg, b_abs, b_lt, b_le, b_gt, b_ge, b_eqI, b_neI, b_max, b_min, asBool_bl, mkTup1, mkTup2, b_idx, ix0, ix1, Bool.false_eq_true, reduceIte, b_isinst, b_len, b_all, b_any, b_tuple, b_list, b_append, b_pop, b_rev, b_int, b_isN, b_isNN, eT_sub, mkL_in, mkL_new, Bool.not_true, Bool.not_false, it_two, it_three, lenL, lenTu, mkLst_nil, mkTup3, isTL, isTT, go_assoc] <;> rfl)) (by rw [List.length_range]; omega)) ?_
      · simp only [iE_sq, eS_seq, eS_skip, eS_ret, eS_ex, eS_asg, eS_ite, eS_raise, eE_call, eE_bi, eE_var, eE_cst, eE_glo, eE_fnv, eE_tup, eE_lst, eE_and, eE_or, eE_not, eE_ite, eE_mth, eE_chain, eE_sl, intP, slT, eA_cons, eA_nil, eT_nm, eT_tup, eT_cons, eT_nil, go_ok, go_exc, go_stuck, gv0, gvS, List.set_cons_zero, List.set_cons_succ, b_add, b_sub, b_mul, b_fdiv, b_mod, b_neg, b_abs, b_lt, b_le, b_gt, b_ge, b_eqI, b_neI, b_max, b_min, asBool_bl, mkTup1, mkTup2, b_idx, ix0, ix1, Bool.false_eq_true, reduceIte, b_isinst, b_len, b_all, b_any, b_tuple, b_list, b_append, b_pop, b_rev, b_int, b_isN, b_isNN, eT_sub, mkL_in, mkL_new, Bool.not_true, Bool.not_false, it_two, it_three, lenL, lenTu, mkLst_nil, mkTup3, isTL, isTT, go_assoc, eE_slTF, hsl, hcut, sqL]
      · simp only [eS_seq, eS_skip, eS_ret, eS_ex, eS_asg, eS_ite, eS_raise, eE_call, eE_bi, eE_var, eE_cst, eE_glo, eE_fnv, eE_tup, eE_lst, eE_and, eE_or, eE_not, eE_ite, eE_mth, eE_chain, eE_sl, intP, slT, eA_cons, eA_nil, eT_nm, eT_tup, eT_cons, eT_nil, go_ok, go_exc, go_stuck, gv0, gvS, List.set_cons_zero, List.set_cons_succ, b_add, b_sub, b_mul, b_fdiv, b_mod, b_neg, b_abs, b_lt, b_le, b_gt, b_ge, b_eqI, b_neI, b_max, b_min, asBool_bl, mkTup1, mkTup2, b_idx, ix0, ix1, Bool.false_eq_true, reduceIte, b_isinst, b_len, b_all, b_any, b_tuple, b_list, b_append, b_pop, b_rev, b_int, b_isN, b_isNN, eT_sub, mkL_in, mkL_new, Bool.not_true, Bool.not_false, it_two, it_three, lenL, lenTu, mkLst_nil, mkTup3, isTL, isTT, go_assoc, g1 r (by omega), he0, hz]
      · exact Wp.of (by simp only [eS_seq, eS_skip, eS_ret, eS_ex, eS_asg, eS_ite, eS_raise, eE_call, eE_bi, eE_var, eE_cst, eE_glo, eE_fnv, eE_tup, eE_lst, eE_and, eE_or, eE_not, eE_ite, eE_mth, eE_chain, eE_sl, intP, slT, eA_cons, eA_nil, eT_nm, eT_tup, eT_cons, eT_nil, go_ok, go_exc, go_stuck, gv0, gvS, List.set_cons_zero, List.set_cons_succ, b_add, b_sub, b_mul, b_fdiv, b_mod, b_neg, b_abs, b_lt, b_le, b_gt, b_ge, b_eqI, b_neI, b_max, b_min, asBool_bl, mkTup1, mkTup2, b_idx, ix0, ix1, Bool.false_eq_true, reduceIte, b_isinst, b_len, b_all, b_any, b_tuple, b_list, b_append, b_pop, b_rev, b_int, b_isN, b_isNN, eT_sub, mkL_in, mkL_new, Bool.not_true, Bool.not_false, it_two, it_three, lenL, lenTu, mkLst_nil, mkTup3, isTL, isTT, go_assoc] <;> rfl) ⟨rfl, rfl⟩
    · refine ⟨_, rfl, leave_wp rfl (by simp [sz]) ⟨rfl, _, rfl, ?_⟩⟩
      rw [beq_iff_eq]
      refine Iff.trans ?_ hE.told
      rw [show (((((List.range (n - r - a)).filter (fun i => !decide (W (a + i) r = 0))).map fun i => D.lst (fr (r + 1) (W (a + i)))).length : Int) = 0) ↔ ((List.range (n - r - a)).filter (fun i => !decide (W (a + i) r = 0))) = [] from by
        rw [List.length_map]
        constructor
        · intro e; exact List.eq_nil_of_length_eq_zero (by omega)
        · intro e; rw [e]; rfl]
      have hlem := hE.lem
      constructor
      · intro e kk h1 h2
        have := filt_nil e (kk - a) (by omega)
        rw [show a + (kk - a) = kk by omega] at this
        simpa using this
      · intro e
        rw [List.filter_eq_nil_iff]
        intro i hi
        have := e (a + i) (by omega) (by have := List.mem_range.mp hi; omega)
        simp [this]
end
end K82
set_option Elab.async false
set_option linter.all false
set_option maxRecDepth 100000
set_option maxHeartbeats 1000000
namespace K82
open PySem PC
def Stt (a b : Int) (rest : Store) : Store := .lst [.int a, .int b] :: rest
def St (rest st : Store) : Prop := ∃ a b : Int, 0 ≤ a ∧ 0 ≤ b ∧ st = Stt a b rest
theorem St.len {rest st : Store} (h : St rest st) : st.length = rest.length + 1 := by
  obtain ⟨a, b, _, _, rfl⟩ := h; rfl
theorem mulOk_short {i j : Int} (h : Builtin.Int.intBits j ≤ shortFactorBits) : mulOk i j = true := by
  unfold mulOk
  have : decide (Builtin.Int.intBits j > shortFactorBits) = false := decide_eq_false (by omega)
  rw [this, Bool.and_false, Bool.false_and]; rfl
theorem fmod_pos {a : Int} {m : Nat} (hm : 0 < m) : ∃ v : Nat, v < m ∧ a.fmod (m : Int) = (v : Int) := by
  have h1 := Int.fmod_nonneg_of_pos a (show (0 : Int) < m by omega)
  have h2 := Int.fmod_lt_of_pos a (show (0 : Int) < m by omega)
  exact ⟨(a.fmod m).toNat, by omega, by omega⟩
section
variable {k : Nat} {rest st : Store}
theorem take_wp (h : St rest st) {m : Nat} (hm : 1 ≤ m) (hm2 : m < 2 ^ 60) : Wp (callF tbl (k + 1) 17 [.ref 0, .int (m : Nat)] st) fun d st' => St rest st' ∧ ∃ v : Nat, v < m ∧ d = .int (v : Nat) := by
  obtain ⟨a, b, ha, hb, rfl⟩ := h
  refine call_wp (d := d__law_take) rfl rfl rfl ?_
  show Wp (evS (callF tbl k) b__law_take [some (.ref 0), some (.int (m : Nat)), none] (Stt a b rest)) _
  unfold b__law_take
  have g0 : idxV (.ref 0) (.int 0) (Stt a b rest) = .ok (.int a) (Stt a b rest) := ix_seq (i := 0) rfl rfl
  have g1 : idxV (.ref 0) (.int 1) (Stt a b rest) = .ok (.int b) (Stt a b rest) := ix_seq (i := 1) rfl rfl
  have hmd : decide ((m : Int) ≠ 0) = true := decide_eq_true (by omega)
  have hdv : divOk (m : Int) = true := divOk_of (by omega) (by
    show (m : Int).natAbs < 2 ^ 9000
    rw [Int.natAbs_natCast]
    exact Nat.lt_of_lt_of_le hm2 (pow_le2 (by omega)))
  refine wp_seq (wp_iteB (x := decide (0 < a)) (st' := Stt a b rest) (by simp only [eS_seq, eS_skip, eS_ret, eS_ex, eS_asg, eS_ite, eS_raise, eE_call, eE_bi, eE_var, eE_cst, eE_glo, eE_fnv, eE_tup, eE_lst, eE_and, eE_or, eE_not, eE_ite, eE_mth, eE_chain, eE_sl, intP, slT, eA_cons, eA_nil, eT_nm, eT_tup, eT_cons, eT_nil, go_ok, go_exc, go_stuck, gv0, gvS, List.set_cons_zero, List.set_cons_succ, b_add, b_sub, b_mul, b_fdiv, b_mod, b_neg, b_abs, b_lt, b_le, b_gt, b_ge, b_eqI, b_neI, b_max, b_min, asBool_bl, mkTup1, mkTup2, b_idx, ix0, ix1, Bool.false_eq_true, reduceIte, b_isinst, b_len, b_all, b_any, b_tuple, b_list, b_append, b_pop, b_rev, b_int, b_isN, b_isNN, eT_sub, mkL_in, mkL_new, Bool.not_true, Bool.not_false, it_two, it_three, lenL, lenTu, mkLst_nil, mkTup3, isTL, isTT, go_assoc, g0] <;> rfl) (fun hx => ?_) (fun hx => ?_))
  · obtain ⟨v, hv, ev⟩ := fmod_pos (a := a) (m := m) (by omega)
    refine wp_seq (wp_asgP (d := .int (v : Nat)) (by simp only [eS_seq, eS_skip, eS_ret, eS_ex, eS_asg, eS_ite, eS_raise, eE_call, eE_bi, eE_var, eE_cst, eE_glo, eE_fnv, eE_tup, eE_lst, eE_and, eE_or, eE_not, eE_ite, eE_mth, eE_chain, eE_sl, intP, slT, eA_cons, eA_nil, eT_nm, eT_tup, eT_cons, eT_nil, go_ok, go_exc, go_stuck, gv0, gvS, List.set_cons_zero, List.set_cons_succ, b_add, b_sub, b_mul, b_fdiv, b_mod, b_neg, b_abs, b_lt, b_le, b_gt, b_ge, b_eqI, b_neI, b_max, b_min, asBool_bl, mkTup1, mkTup2, b_idx, ix0, ix1, Bool.false_eq_true, reduceIte, b_isinst, b_len, b_all, b_any, b_tuple, b_list, b_append, b_pop, b_rev, b_int, b_isN, b_isNN, eT_sub, mkL_in, mkL_new, Bool.not_true, Bool.not_false, it_two, it_three, lenL, lenTu, mkLst_nil, mkTup3, isTL, isTT, go_assoc, g0, hmd, ev] <;> rfl) ?_)
    have hs : setItemV (.ref 0) (.int 0) (.int (a.fdiv m)) (Stt a b rest) = .ok () (Stt (a.fdiv m) b rest) := rfl
    refine wp_seq (wp_asgT (d := .int (a.fdiv m)) (st' := Stt a b rest) (by simp only [eS_seq, eS_skip, eS_ret, eS_ex, eS_asg, eS_ite, eS_raise, eE_call, eE_bi, eE_var, eE_cst, eE_glo, eE_fnv, eE_tup, eE_lst, eE_and, eE_or, eE_not, eE_ite, eE_mth, eE_chain, eE_sl, intP, slT, eA_cons, eA_nil, eT_nm, eT_tup, eT_cons, eT_nil, go_ok, go_exc, go_stuck, gv0, gvS, List.set_cons_zero, List.set_cons_succ, b_add, b_sub, b_mul, b_fdiv, b_mod, b_neg, b_abs, b_lt, b_le, b_gt, b_ge, b_eqI, b_neI, b_max, b_min, asBool_bl, mkTup1, mkTup2, b_idx, ix0, ix1, Bool.false_eq_true, reduceIte, b_isinst, b_len, b_all, b_any, b_tuple, b_list, b_append, b_pop, b_rev, b_int, b_isN, b_isNN, eT_sub, mkL_in, mkL_new, Bool.not_true, Bool.not_false, it_two, it_three, lenL, lenTu, mkLst_nil, mkTup3, isTL, isTT, go_assoc, g0, hdv] <;> rfl) (st2 := Stt (a.fdiv m) b rest) (by simp only [eS_seq, eS_skip, eS_ret, eS_ex, eS_asg, eS_ite, eS_raise, eE_call, eE_bi, eE_var, eE_cst, eE_glo, eE_fnv, eE_tup, eE_lst, eE_and, eE_or, eE_not, eE_ite, eE_mth, eE_chain, eE_sl, intP, slT, eA_cons, eA_nil, eT_nm, eT_tup, eT_cons, eT_nil, go_ok, go_exc, go_stuck, gv0, gvS, List.set_cons_zero, List.set_cons_succ, b_add, b_sub, b_mul, b_fdiv, b_mod, b_neg, b_abs, b_lt, b_le, b_gt, b_ge, b_eqI, b_neI, b_max, b_min, asBool_bl, mkTup1, mkTup2, b_idx, ix0, ix1, Bool.false_eq_true, reduceIte, b_isinst, b_len, b_all, b_any, b_tuple, b_list, b_append, b_pop, b_rev, b_int, b_isN, b_isNN, eT_sub, mkL_in, mkL_new, Bool.not_true, Bool.not_false, it_two, it_three, lenL, lenTu, mkLst_nil, mkTup3, isTL, isTT, go_assoc, hs] <;> rfl) ?_)
    refine wp_seq (wp_ret (d := .int (v : Nat)) (st' := Stt (a.fdiv m) b rest) (by simp only [eS_seq, eS_skip, eS_ret, eS_ex, eS_asg, eS_ite, eS_raise, eE_call, eE_bi, eE_var, eE_cst, eE_glo, eE_fnv, eE_tup, eE_lst, eE_and, eE_or, eE_not, eE_ite, eE_mth, eE_chain, eE_sl, intP, slT, eA_cons, eA_nil, eT_nm, eT_tup, eT_cons, eT_nil, go_ok, go_exc, go_stuck, gv0, gvS, List.set_cons_zero, List.set_cons_succ, b_add, b_sub, b_mul, b_fdiv, b_mod, b_neg, b_abs, b_lt, b_le, b_gt, b_ge, b_eqI, b_neI, b_max, b_min, asBool_bl, mkTup1, mkTup2, b_idx, ix0, ix1, Bool.false_eq_true, reduceIte, b_isinst, b_len, b_all, b_any, b_tuple, b_list, b_append, b_pop, b_rev, b_int, b_isN, b_isNN, eT_sub, mkL_in, mkL_new, Bool.not_true, Bool.not_false, it_two, it_three, lenL, lenTu, mkLst_nil, mkTup3, isTL, isTT, go_assoc] <;> rfl) ⟨_, rfl, leave_wp0 rfl rfl ⟨⟨_, _, ?_, hb, rfl⟩, v, hv, rfl⟩⟩)
    exact Int.fdiv_nonneg ha (by omega)
  · refine wp_skip ?_
    have hs : ∀ x, setItemV (.ref 0) (.int 1) (.int x) (Stt a b rest) = .ok () (Stt a x rest) := fun _ => rfl
    have hmu : mulOk b 48271 = true := mulOk_short (by decide +kernel)
    obtain ⟨c, hc, ec⟩ := fmod_pos (a := b * 48271 + 11) (m := 2147483647) (by omega)
    have ec : (b * 48271 + 11).fmod 2147483647 = (c : Int) := ec
    refine wp_seq (wp_asgT (d := .int (c : Nat)) (st' := Stt a b rest) (by simp only [eS_seq, eS_skip, eS_ret, eS_ex, eS_asg, eS_ite, eS_raise, eE_call, eE_bi, eE_var, eE_cst, eE_glo, eE_fnv, eE_tup, eE_lst, eE_and, eE_or, eE_not, eE_ite, eE_mth, eE_chain, eE_sl, intP, slT, eA_cons, eA_nil, eT_nm, eT_tup, eT_cons, eT_nil, go_ok, go_exc, go_stuck, gv0, gvS, List.set_cons_zero, List.set_cons_succ, b_add, b_sub, b_mul, b_fdiv, b_mod, b_neg, b_abs, b_lt, b_le, b_gt, b_ge, b_eqI, b_neI, b_max, b_min, asBool_bl, mkTup1, mkTup2, b_idx, ix0, ix1, Bool.false_eq_true, reduceIte, b_isinst, b_len, b_all, b_any, b_tuple, b_list, b_append, b_pop, b_rev, b_int, b_isN, b_isNN, eT_sub, mkL_in, mkL_new, Bool.not_true, Bool.not_false, it_two, it_three, lenL, lenTu, mkLst_nil, mkTup3, isTL, isTT, go_assoc, g1, hmu, show decide ((2147483647 : Int) ≠ 0) = true from by decide, ec] <;> rfl) (st2 := Stt a (c : Nat) rest) (by simp only [eS_seq, eS_skip, eS_ret, eS_ex, eS_asg, eS_ite, eS_raise, eE_call, eE_bi, eE_var, eE_cst, eE_glo, eE_fnv, eE_tup, eE_lst, eE_and, eE_or, eE_not, eE_ite, eE_mth, eE_chain, eE_sl, intP, slT, eA_cons, eA_nil, eT_nm, eT_tup, eT_cons, eT_nil, go_ok, go_exc, go_stuck, gv0, gvS, List.set_cons_zero, List.set_cons_succ, b_add, b_sub, b_mul, b_fdiv, b_mod, b_neg, b_abs, b_lt, b_le, b_gt, b_ge, b_eqI, b_neI, b_max, b_min, asBool_bl, mkTup1, mkTup2, b_idx, ix0, ix1, Bool.false_eq_true, reduceIte, b_isinst, b_len, b_all, b_any, b_tuple, b_list, b_append, b_pop, b_rev, b_int, b_isN, b_isNN, eT_sub, mkL_in, mkL_new, Bool.not_true, Bool.not_false, it_two, it_three, lenL, lenTu, mkLst_nil, mkTup3, isTL, isTT, go_assoc, hs] <;> rfl) ?_)
    have g1' : idxV (.ref 0) (.int 1) (Stt a (c : Nat) rest) = .ok (.int (c : Nat)) (Stt a (c : Nat) rest) := ix_seq (i := 1) rfl rfl
    obtain ⟨v, hv, ev⟩ := fmod_pos (a := (c : Int).fdiv 7) (m := m) (by omega)
    have hd7 : divOk 7 = true := by decide +kernel
    exact wp_seq (wp_ret (d := .int (v : Nat)) (st' := Stt a (c : Nat) rest) (by simp only [eS_seq, eS_skip, eS_ret, eS_ex, eS_asg, eS_ite, eS_raise, eE_call, eE_bi, eE_var, eE_cst, eE_glo, eE_fnv, eE_tup, eE_lst, eE_and, eE_or, eE_not, eE_ite, eE_mth, eE_chain, eE_sl, intP, slT, eA_cons, eA_nil, eT_nm, eT_tup, eT_cons, eT_nil, go_ok, go_exc, go_stuck, gv0, gvS, List.set_cons_zero, List.set_cons_succ, b_add, b_sub, b_mul, b_fdiv, b_mod, b_neg, b_abs, b_lt, b_le, b_gt, b_ge, b_eqI, b_neI, b_max, b_min, asBool_bl, mkTup1, mkTup2, b_idx, ix0, ix1, Bool.false_eq_true, reduceIte, b_isinst, b_len, b_all, b_any, b_tuple, b_list, b_append, b_pop, b_rev, b_int, b_isN, b_isNN, eT_sub, mkL_in, mkL_new, Bool.not_true, Bool.not_false, it_two, it_three, lenL, lenTu, mkLst_nil, mkTup3, isTL, isTT, go_assoc, g1', hd7, hmd, ev] <;> rfl) ⟨_, rfl, leave_wp0 rfl rfl ⟨⟨_, _, ha, by omega, rfl⟩, v, hv, rfl⟩⟩)
theorem call_wpK {tbl : Nat → Option Def} {k f : Nat} {d : Def} {args : List D} {st : Store} {Q : D → Store → Prop} (h : tbl f = some d) (hl : args.length = d.np)
    (hb : Wp (evS (callF tbl k) d.body (args.map some ++ List.replicate (d.ns - d.np) none) st) fun f st' => ∃ r, f = .rt r ∧ Wp (leave d.keep st r st') Q) : Wp (callF tbl (k + 1) f args st) Q := by
  obtain ⟨f, st', e, r, rfl, w⟩ := hb
  rw [call_unf h hl, e]
  exact w
theorem state_wp {ns : List Int} : Wp (callF tbl (k + 1) 16 [scriptD ns] []) fun d st' => d = .ref 0 ∧ St [] st' := by
  refine call_wpK (d := d__law_state) rfl rfl ?_
  show Wp (evS (callF tbl k) b__law_state [some (scriptD ns), none, none, none] []) _
  unfold b__law_state
  refine wp_seq (wp_asgP (d := .int 0) (by simp only [eS_seq, eS_skip, eS_ret, eS_ex, eS_asg, eS_ite, eS_raise, eE_call, eE_bi, eE_var, eE_cst, eE_glo, eE_fnv, eE_tup, eE_lst, eE_and, eE_or, eE_not, eE_ite, eE_mth, eE_chain, eE_sl, intP, slT, eA_cons, eA_nil, eT_nm, eT_tup, eT_cons, eT_nil, go_ok, go_exc, go_stuck, gv0, gvS, List.set_cons_zero, List.set_cons_succ, b_add, b_sub, b_mul, b_fdiv, b_mod, b_neg, b_abs, b_lt, b_le, b_gt, b_ge, b_eqI, b_neI, b_max, b_min, asBool_bl, mkTup1, mkTup2, b_idx, ix0, ix1, Bool.false_eq_true, reduceIte, b_isinst, b_len, b_all, b_any, b_tuple, b_list, b_append, b_pop, b_rev, b_int, b_isN, b_isNN, eT_sub, mkL_in, mkL_new, Bool.not_true, Bool.not_false, it_two, it_three, lenL, lenTu, mkLst_nil, mkTup3, isTL, isTT, go_assoc] <;> rfl) ?_)
  refine wp_seq (wp_asgP (d := .int 1) (by simp only [eS_seq, eS_skip, eS_ret, eS_ex, eS_asg, eS_ite, eS_raise, eE_call, eE_bi, eE_var, eE_cst, eE_glo, eE_fnv, eE_tup, eE_lst, eE_and, eE_or, eE_not, eE_ite, eE_mth, eE_chain, eE_sl, intP, slT, eA_cons, eA_nil, eT_nm, eT_tup, eT_cons, eT_nil, go_ok, go_exc, go_stuck, gv0, gvS, List.set_cons_zero, List.set_cons_succ, b_add, b_sub, b_mul, b_fdiv, b_mod, b_neg, b_abs, b_lt, b_le, b_gt, b_ge, b_eqI, b_neI, b_max, b_min, asBool_bl, mkTup1, mkTup2, b_idx, ix0, ix1, Bool.false_eq_true, reduceIte, b_isinst, b_len, b_all, b_any, b_tuple, b_list, b_append, b_pop, b_rev, b_int, b_isN, b_isNN, eT_sub, mkL_in, mkL_new, Bool.not_true, Bool.not_false, it_two, it_three, lenL, lenTu, mkLst_nil, mkTup3, isTL, isTT, go_assoc] <;> rfl) ?_)
  have hsl : sliceV false (scriptD ns) none (some 63) [] = .ok (.lst (cut (ns.map D.int) none (some 63))) [] := rfl
  refine wp_seq (wp_forS (xs := cut (ns.map D.int) none (some 63)) (by simp only [iE_sq, eS_seq, eS_skip, eS_ret, eS_ex, eS_asg, eS_ite, eS_raise, eE_call, eE_bi, eE_var, eE_cst, eE_glo, eE_fnv, eE_tup, eE_lst, eE_and, eE_or, eE_not, eE_ite, eE_mth, eE_chain, eE_sl, intP, slT, eA_cons, eA_nil, eT_nm, eT_tup, eT_cons, eT_nil, go_ok, go_exc, go_stuck, gv0, gvS, List.set_cons_zero, List.set_cons_succ, b_add, b_sub, b_mul, b_fdiv, b_mod, b_neg, b_abs, b_lt, b_le, b_gt, b_ge, b_eqI, b_neI, b_max, b_min, asBool_bl, mkTup1, mkTup2, b_idx, ix0, ix1, Bool.false_eq_true, reduceIte, b_isinst, b_len, b_all, b_any, b_tuple, b_list, b_append, b_pop, b_rev, b_int, b_isN, b_isNN, eT_sub, mkL_in, mkL_new, Bool.not_true, Bool.not_false, it_two, it_three, lenL, lenTu, mkLst_nil, mkTup3, isTL, isTT, go_assoc, eE_slFT, hsl, sqL]) (fun i ρ st' => st' = [] ∧ ∃ a b x3, 0 ≤ a ∧ 0 ≤ b ∧ ρ = [some (scriptD ns), some (.int a), some (.int b), x3]) ?_ ?_ ?_)
  · exact ⟨rfl, 0, 1, none, by decide, by decide, rfl⟩
  · rintro i x hx ρ st' ⟨hst, a, b, x3, ha, hb, rfl⟩
    subst hst
    have hm : x ∈ ns.map D.int := by
      have := List.mem_of_getElem? hx
      have hc : cut (ns.map D.int) none (some 63) = (ns.map D.int).take 63 := cut_to (i := 63) rfl
      rw [hc] at this
      exact List.mem_of_mem_take this
    obtain ⟨z, _, rfl⟩ := List.mem_map.mp hm
    have h1 : mulOk a 1000003 = true := mulOk_short (by decide +kernel)
    have h2 : mulOk b 48271 = true := mulOk_short (by decide +kernel)
    obtain ⟨c, hc, ec⟩ := fmod_pos (a := b * 48271 + z) (m := 2147483647) (by omega)
    have ec : (b * 48271 + z).fmod 2147483647 = (c : Int) := ec
    simp only [eT_tup, it_two, it_three, eT_cons, eT_nm, eT_nil, go_ok, List.set_cons_zero, List.set_cons_succ]
    refine wp_seq (wp_asgP (d := .int (a * 1000003 + absI z)) (by simp only [eS_seq, eS_skip, eS_ret, eS_ex, eS_asg, eS_ite, eS_raise, eE_call, eE_bi, eE_var, eE_cst, eE_glo, eE_fnv, eE_tup, eE_lst, eE_and, eE_or, eE_not, eE_ite, eE_mth, eE_chain, eE_sl, intP, slT, eA_cons, eA_nil, eT_nm, eT_tup, eT_cons, eT_nil, go_ok, go_exc, go_stuck, gv0, gvS, List.set_cons_zero, List.set_cons_succ, b_add, b_sub, b_mul, b_fdiv, b_mod, b_neg, b_abs, b_lt, b_le, b_gt, b_ge, b_eqI, b_neI, b_max, b_min, asBool_bl, mkTup1, mkTup2, b_idx, ix0, ix1, Bool.false_eq_true, reduceIte, b_isinst, b_len, b_all, b_any, b_tuple, b_list, b_append, b_pop, b_rev, b_int, b_isN, b_isNN, eT_sub, mkL_in, mkL_new, Bool.not_true, Bool.not_false, it_two, it_three, lenL, lenTu, mkLst_nil, mkTup3, isTL, isTT, go_assoc, h1] <;> rfl) ?_)
    refine wp_seq (wp_asgP (d := .int (c : Nat)) (by simp only [eS_seq, eS_skip, eS_ret, eS_ex, eS_asg, eS_ite, eS_raise, eE_call, eE_bi, eE_var, eE_cst, eE_glo, eE_fnv, eE_tup, eE_lst, eE_and, eE_or, eE_not, eE_ite, eE_mth, eE_chain, eE_sl, intP, slT, eA_cons, eA_nil, eT_nm, eT_tup, eT_cons, eT_nil, go_ok, go_exc, go_stuck, gv0, gvS, List.set_cons_zero, List.set_cons_succ, b_add, b_sub, b_mul, b_fdiv, b_mod, b_neg, b_abs, b_lt, b_le, b_gt, b_ge, b_eqI, b_neI, b_max, b_min, asBool_bl, mkTup1, mkTup2, b_idx, ix0, ix1, Bool.false_eq_true, reduceIte, b_isinst, b_len, b_all, b_any, b_tuple, b_list, b_append, b_pop, b_rev, b_int, b_isN, b_isNN, eT_sub, mkL_in, mkL_new, Bool.not_true, Bool.not_false, it_two, it_three, lenL, lenTu, mkLst_nil, mkTup3, isTL, isTT, go_assoc, h2, show decide ((2147483647 : Int) ≠ 0) = true from by decide, ec] <;> rfl) ?_)
    refine wp_skip ⟨rfl, _, _, _, ?_, (show (0 : Int) ≤ (c : Int) by omega), rfl⟩
    have : 0 ≤ absI z := by rw [absI_eq]; omega
    have : 0 ≤ a * 1000003 := Int.mul_nonneg ha (by decide)
    omega
  · rintro ρ st' ⟨hst, a, b, x3, ha, hb, rfl⟩
    subst hst
    have hmk : mkLst true [.int a, .int b] [] = .ok (.ref 0) (Stt a b []) := rfl
    refine wp_seq (wp_ret (d := .ref 0) (st' := Stt a b []) (by simp only [eS_seq, eS_skip, eS_ret, eS_ex, eS_asg, eS_ite, eS_raise, eE_call, eE_bi, eE_var, eE_cst, eE_glo, eE_fnv, eE_tup, eE_lst, eE_and, eE_or, eE_not, eE_ite, eE_mth, eE_chain, eE_sl, intP, slT, eA_cons, eA_nil, eT_nm, eT_tup, eT_cons, eT_nil, go_ok, go_exc, go_stuck, gv0, gvS, List.set_cons_zero, List.set_cons_succ, b_add, b_sub, b_mul, b_fdiv, b_mod, b_neg, b_abs, b_lt, b_le, b_gt, b_ge, b_eqI, b_neI, b_max, b_min, asBool_bl, mkTup1, mkTup2, b_idx, ix0, ix1, Bool.false_eq_true, reduceIte, b_isinst, b_len, b_all, b_any, b_tuple, b_list, b_append, b_pop, b_rev, b_int, b_isN, b_isNN, eT_sub, mkL_in, mkL_new, Bool.not_true, Bool.not_false, it_two, it_three, lenL, lenTu, mkLst_nil, mkTup3, isTL, isTT, go_assoc, hmk] <;> rfl) ⟨_, rfl, ?_⟩)
    exact ⟨_, _, rfl, rfl, a, b, ha, hb, rfl⟩
theorem drawn_wp (h : St rest st) : Wp (callF tbl (k + 2) 29 [.ref 0] st) fun d st' => St rest st' ∧ ∃ x, d = encR x ∧ Ov 12 72 x := by
  refine call_wp (d := d__law_drawn) rfl rfl rfl ?_
  show Wp (evS (callF tbl (k + 1)) b__law_drawn [some (.ref 0)] st) _
  unfold b__law_drawn
  refine wp_seq (wp_retW ?_)
  refine Wp.mono (Q := fun d st' => St rest st' ∧ ∃ x, d = encR x ∧ Ov 12 72 x) ?_ fun d st' ⟨h1, x, e, h2⟩ => ⟨d, rfl, leave_wp0 (by rw [h1.len, h.len]) (by rw [e]; rfl) ⟨h1, x, e, h2⟩⟩
  simp only [eS_seq, eS_skip, eS_ret, eS_ex, eS_asg, eS_ite, eS_raise, eE_call, eE_bi, eE_var, eE_cst, eE_glo, eE_fnv, eE_tup, eE_lst, eE_and, eE_or, eE_not, eE_ite, eE_mth, eE_chain, eE_sl, intP, slT, eA_cons, eA_nil, eT_nm, eT_tup, eT_cons, eT_nil, go_ok, go_exc, go_stuck, gv0, gvS, List.set_cons_zero, List.set_cons_succ, b_add, b_sub, b_mul, b_fdiv, b_mod, b_neg, b_abs, b_lt, b_le, b_gt, b_ge, b_eqI, b_neI, b_max, b_min, asBool_bl, mkTup1, mkTup2, b_idx, ix0, ix1, Bool.false_eq_true, reduceIte, b_isinst, b_len, b_all, b_any, b_tuple, b_list, b_append, b_pop, b_rev, b_int, b_isN, b_isNN, eT_sub, mkL_in, mkL_new, Bool.not_true, Bool.not_false, it_two, it_three, lenL, lenTu, mkLst_nil, mkTup3, isTL, isTT, go_assoc]
  refine Wp.by_ (take_wp (m := 13) h (by decide) (by decide)) fun d1 st1 ⟨h1, v, hv, e1⟩ => ?_
  subst e1
  simp only [eS_seq, eS_skip, eS_ret, eS_ex, eS_asg, eS_ite, eS_raise, eE_call, eE_bi, eE_var, eE_cst, eE_glo, eE_fnv, eE_tup, eE_lst, eE_and, eE_or, eE_not, eE_ite, eE_mth, eE_chain, eE_sl, intP, slT, eA_cons, eA_nil, eT_nm, eT_tup, eT_cons, eT_nil, go_ok, go_exc, go_stuck, gv0, gvS, List.set_cons_zero, List.set_cons_succ, b_add, b_sub, b_mul, b_fdiv, b_mod, b_neg, b_abs, b_lt, b_le, b_gt, b_ge, b_eqI, b_neI, b_max, b_min, asBool_bl, mkTup1, mkTup2, b_idx, ix0, ix1, Bool.false_eq_true, reduceIte, b_isinst, b_len, b_all, b_any, b_tuple, b_list, b_append, b_pop, b_rev, b_int, b_isN, b_isNN, eT_sub, mkL_in, mkL_new, Bool.not_true, Bool.not_false, it_two, it_three, lenL, lenTu, mkLst_nil, mkTup3, isTL, isTT, go_assoc]
  refine Wp.by_ (take_wp (m := 4) h1 (by decide) (by decide)) fun d2 st2 ⟨h2, w, hw, e2⟩ => ?_
  subst e2
  simp only [eS_seq, eS_skip, eS_ret, eS_ex, eS_asg, eS_ite, eS_raise, eE_call, eE_bi, eE_var, eE_cst, eE_glo, eE_fnv, eE_tup, eE_lst, eE_and, eE_or, eE_not, eE_ite, eE_mth, eE_chain, eE_sl, intP, slT, eA_cons, eA_nil, eT_nm, eT_tup, eT_cons, eT_nil, go_ok, go_exc, go_stuck, gv0, gvS, List.set_cons_zero, List.set_cons_succ, b_add, b_sub, b_mul, b_fdiv, b_mod, b_neg, b_abs, b_lt, b_le, b_gt, b_ge, b_eqI, b_neI, b_max, b_min, asBool_bl, mkTup1, mkTup2, b_idx, ix0, ix1, Bool.false_eq_true, reduceIte, b_isinst, b_len, b_all, b_any, b_tuple, b_list, b_append, b_pop, b_rev, b_int, b_isN, b_isNN, eT_sub, mkL_in, mkL_new, Bool.not_true, Bool.not_false, it_two, it_three, lenL, lenTu, mkLst_nil, mkTup3, isTL, isTT, go_assoc]
  have hf := law_frac_call (k := k) (n := (v : Int) - 6) (d := 1 + (w : Int)) (st := st2) (by omega) (by
    show (1 + (w : Int)).natAbs < 2 ^ 9000
    have : (1 + (w : Int)).natAbs < 2 ^ 3 := by omega
    exact Nat.lt_of_lt_of_le this (pow_le2 (by omega)))
  refine Wp.of hf ⟨h2, _, rfl, ?_⟩
  rw [Rat.divInt_eq_div]
  have hw4 : w = 0 ∨ w = 1 ∨ w = 2 ∨ w = 3 := by omega
  rcases hw4 with rfl | rfl | rfl | rfl
  · refine ⟨((v : Int) - 6) * 12, by omega, ?_⟩
    rw [Rat.intCast_mul]
    show ((((v : Int) - 6 : Int)) : Rat) / ((1 : Int) : Rat) = _ * ((12 : Int) : Rat) / ((12 : Int) : Rat)
    generalize (((v : Int) - 6 : Int) : Rat) = X
    have e1 : ((1 : Int) : Rat) = 1 := rfl
    have e2 : ((12 : Int) : Rat) = 12 := rfl
    rw [e1, e2]; grind
  · refine ⟨((v : Int) - 6) * 6, by omega, ?_⟩
    rw [Rat.intCast_mul]
    show ((((v : Int) - 6 : Int)) : Rat) / ((2 : Int) : Rat) = _ * ((6 : Int) : Rat) / ((12 : Int) : Rat)
    generalize (((v : Int) - 6 : Int) : Rat) = X
    have e1 : ((2 : Int) : Rat) = 2 := rfl
    have e2 : ((12 : Int) : Rat) = 12 := rfl
    have e3 : ((6 : Int) : Rat) = 6 := rfl
    rw [e1, e2, e3]; grind
  · refine ⟨((v : Int) - 6) * 4, by omega, ?_⟩
    rw [Rat.intCast_mul]
    show ((((v : Int) - 6 : Int)) : Rat) / ((3 : Int) : Rat) = _ * ((4 : Int) : Rat) / ((12 : Int) : Rat)
    generalize (((v : Int) - 6 : Int) : Rat) = X
    have e1 : ((3 : Int) : Rat) = 3 := rfl
    have e2 : ((12 : Int) : Rat) = 12 := rfl
    have e3 : ((4 : Int) : Rat) = 4 := rfl
    rw [e1, e2, e3]; grind
  · refine ⟨((v : Int) - 6) * 3, by omega, ?_⟩
    rw [Rat.intCast_mul]
    show ((((v : Int) - 6 : Int)) : Rat) / ((4 : Int) : Rat) = _ * ((3 : Int) : Rat) / ((12 : Int) : Rat)
    generalize (((v : Int) - 6 : Int) : Rat) = X
    have e1 : ((4 : Int) : Rat) = 4 := rfl
    have e2 : ((12 : Int) : Rat) = 12 := rfl
    have e3 : ((3 : Int) : Rat) = 3 := rfl
    rw [e1, e2, e3]; grind
theorem cBody_oneS {cf : Nat → List D → M D} {elt : E} {i : Nat} {ρ : Rho} {st st' : Store} {d y : D} (h : evE cf elt (ρ.set i (some d)) st = .ok y st') : cBody cf ρ true [i] (.cst (.bl true)) elt d st = .ok (some y) st' := by
  rw [cBody_go, eE_cst, go_ok, asBool_bl, go_ok, if_pos rfl, h, go_ok]
theorem fr_snoc {i : Nat} {x : Nat → Rat} {t : Rat} : fr (i + 1) (fun j => if j = i then t else x j) = fr i x ++ [encR t] := by
  rw [fr_add]
  congr 1
  · exact fr_ext fun c hc => if_neg (by omega)
  · show [encR (if i + 0 = i then t else x (i + 0))] = _
    rw [Nat.add_zero, if_pos rfl]
/-- a list of such fractions by places -/
theorem row_wp (h : St rest st) {n : Nat} (hn : n ≤ 100) : Wp (callF tbl (k + 3) 30 [.ref 0, .int (n : Nat)] st) fun d st' => St rest st' ∧ ∃ x : Nat → Rat, d = .tup (fr n x) ∧ ∀ i, i < n → Ov 12 72 (x i) := by
  refine call_wp (d := d__law_row) rfl rfl rfl ?_
  show Wp (evS (callF tbl (k + 2)) b__law_row [some (.ref 0), some (.int (n : Nat)), none] st) _
  unfold b__law_row
  refine wp_seq (wp_retW ?_)
  refine Wp.mono (Q := fun d st' => St rest st' ∧ ∃ x : Nat → Rat, d = .tup (fr n x) ∧ ∀ i, i < n → Ov 12 72 (x i)) ?_ fun d st' ⟨h1, x, e, h2⟩ => ⟨d, rfl, leave_wp0 (by rw [h1.len, h.len]) (by rw [e]; exact fr_below) ⟨h1, x, e, h2⟩⟩
  simp only [eS_seq, eS_skip, eS_ret, eS_ex, eS_asg, eS_ite, eS_raise, eE_call, eE_bi, eE_var, eE_cst, eE_glo, eE_fnv, eE_tup, eE_lst, eE_and, eE_or, eE_not, eE_ite, eE_mth, eE_chain, eE_sl, intP, slT, eA_cons, eA_nil, eT_nm, eT_tup, eT_cons, eT_nil, go_ok, go_exc, go_stuck, gv0, gvS, List.set_cons_zero, List.set_cons_succ, b_add, b_sub, b_mul, b_fdiv, b_mod, b_neg, b_abs, b_lt, b_le, b_gt, b_ge, b_eqI, b_neI, b_max, b_min, asBool_bl, mkTup1, mkTup2, b_idx, ix0, ix1, Bool.false_eq_true, reduceIte, b_isinst, b_len, b_all, b_any, b_tuple, b_list, b_append, b_pop, b_rev, b_int, b_isN, b_isNN, eT_sub, mkL_in, mkL_new, Bool.not_true, Bool.not_false, it_two, it_three, lenL, lenTu, mkLst_nil, mkTup3, isTL, isTT, go_assoc]
  refine Wp.by_ (wp_comp (Q := fun d st' => St rest st' ∧ ∃ x : Nat → Rat, d = .lst (fr n x) ∧ ∀ i, i < n → Ov 12 72 (x i)) (xs := (List.range n).map fun i : Nat => D.int (i : Int)) (src_rg1 (n := n) rfl rfl (by omega)) (fun i acc st' => St rest st' ∧ ∃ x : Nat → Rat, acc = fr i x ∧ ∀ j, j < i → Ov 12 72 (x j)) ⟨h, fun _ => 0, rfl, fun j hj => absurd hj (Nat.not_lt_zero _)⟩ ?_ ?_) ?_
  · rintro i z hz acc st1 ⟨h1, x, rfl, hx⟩
    obtain ⟨y, st2, e, h2, t, rfl, ht⟩ := drawn_wp (k := k) h1
    refine Wp.of (cBody_oneS (y := encR t) (st' := st2) ?_) ⟨h2, fun j => if j = i then t else x j, ?_, fun j hj => ?_⟩
    · simp only [eS_seq, eS_skip, eS_ret, eS_ex, eS_asg, eS_ite, eS_raise, eE_call, eE_bi, eE_var, eE_cst, eE_glo, eE_fnv, eE_tup, eE_lst, eE_and, eE_or, eE_not, eE_ite, eE_mth, eE_chain, eE_sl, intP, slT, eA_cons, eA_nil, eT_nm, eT_tup, eT_cons, eT_nil, go_ok, go_exc, go_stuck, gv0, gvS, List.set_cons_zero, List.set_cons_succ, b_add, b_sub, b_mul, b_fdiv, b_mod, b_neg, b_abs, b_lt, b_le, b_gt, b_ge, b_eqI, b_neI, b_max, b_min, asBool_bl, mkTup1, mkTup2, b_idx, ix0, ix1, Bool.false_eq_true, reduceIte, b_isinst, b_len, b_all, b_any, b_tuple, b_list, b_append, b_pop, b_rev, b_int, b_isN, b_isNN, eT_sub, mkL_in, mkL_new, Bool.not_true, Bool.not_false, it_two, it_three, lenL, lenTu, mkLst_nil, mkTup3, isTL, isTT, go_assoc, List.set_cons_zero, e]
    · rw [fr_snoc]
      rfl
    · dsimp only
      by_cases e : j = i
      · rw [if_pos e]; exact ht
      · rw [if_neg e]; exact hx j (by omega)
  · rintro acc st1 ⟨h1, x, rfl, hx⟩
    rw [List.length_map, List.length_range] at hx
    rw [List.length_map, List.length_range, fr_len]
    exact ⟨by omega, _, _, rfl, h1, x, rfl, hx⟩
  · rintro d st1 ⟨h1, x, rfl, hx⟩
    have : ∀ st, tupleV (.lst (fr n x)) st = .ok (.tup (fr n x)) st := fun _ => rfl
    simp only [eS_seq, eS_skip, eS_ret, eS_ex, eS_asg, eS_ite, eS_raise, eE_call, eE_bi, eE_var, eE_cst, eE_glo, eE_fnv, eE_tup, eE_lst, eE_and, eE_or, eE_not, eE_ite, eE_mth, eE_chain, eE_sl, intP, slT, eA_cons, eA_nil, eT_nm, eT_tup, eT_cons, eT_nil, go_ok, go_exc, go_stuck, gv0, gvS, List.set_cons_zero, List.set_cons_succ, b_add, b_sub, b_mul, b_fdiv, b_mod, b_neg, b_abs, b_lt, b_le, b_gt, b_ge, b_eqI, b_neI, b_max, b_min, asBool_bl, mkTup1, mkTup2, b_idx, ix0, ix1, Bool.false_eq_true, reduceIte, b_isinst, b_len, b_all, b_any, b_tuple, b_list, b_append, b_pop, b_rev, b_int, b_isN, b_isNN, eT_sub, mkL_in, mkL_new, Bool.not_true, Bool.not_false, it_two, it_three, lenL, lenTu, mkLst_nil, mkTup3, isTL, isTT, go_assoc, this]
    exact Wp.ok ⟨h1, x, rfl, hx⟩
end
end K82
set_option Elab.async false
set_option linter.all false
set_option maxRecDepth 100000
set_option maxHeartbeats 2000000
namespace K82
open PySem PC
/-- what comes of data that is spoilt -/
inductive Odd (data : D) : D → Prop
  | nil : Odd data (.tup [])
  | int (i j : Int) (h : data = .int i) (hj : j.natAbs ≤ i.natAbs + 1) : Odd data (.int j)
  | bl (b : Bool) (i : Int) (h : data = .int i) : Odd data (.bl b)
  | txt (s : Str) (i : Int) (h : data = .int i) : Odd data (.str s)
  | one (i : Int) (h : data = .int i) : Odd data (.tup [.int i])
  | non : Odd data .non
  | lst (xs : List D) (h : data = .tup xs) : Odd data (.lst xs)
  | last (xs : List D) (h : data = .tup xs) : Odd data (.tup xs.dropLast)
  | more (xs : List D) (h : data = .tup xs) : Odd data (.tup (xs ++ xs.take 1))
  | rev (xs : List D) (h : data = .tup xs) : Odd data (.tup xs.reverse)
  | word (s : Str) (h : PyData.strOk s = true) : Odd data (.str s)
  | few (v : Nat) (h : v < 4) : Odd data (.int (v : Nat))
def isTup : D → Bool
  | .tup _ => true
  | _ => false
theorem mkTup0 {st : Store} : mkTup [] st = .ok (.tup []) st := (rfl)
theorem isT_plain {d : D} {st : Store} (h : plainD d = true) : isinstV [.tuple] d st = .ok (.bl (isTup d)) st := by
  cases d with
  | ref _ => cases h
  | fn _ => cases h
  | lok _ => cases h
  | _ => rfl
theorem isI_plain {d : D} {st : Store} (h : plainD d = true) : isinstV [.int] d st = .ok (.bl (isInt d || (match d with | .bl _ => true | _ => false))) st := by
  cases d with
  | ref _ => cases h
  | fn _ => cases h
  | lok _ => cases h
  | _ => rfl
theorem lt11 {v : Nat} (h : v < 11) : v = 0 ∨ v = 1 ∨ v = 2 ∨ v = 3 ∨ v = 4 ∨ v = 5 ∨ v = 6 ∨ v = 7 ∨ v = 8 ∨ v = 9 ∨ v = 10 := by omega
theorem lt8 {v : Nat} (h : v < 8) : v = 0 ∨ v = 1 ∨ v = 2 ∨ v = 3 ∨ v = 4 ∨ v = 5 ∨ v = 6 ∨ v = 7 := by omega
theorem lt6 {v : Nat} (h : v < 6) : v = 0 ∨ v = 1 ∨ v = 2 ∨ v = 3 ∨ v = 4 ∨ v = 5 := by omega
section
variable {k : Nat} {rest st : Store}
theorem odd_below {data d : D} (h : Odd data d) (hb : below 0 data = true) : below 0 d = true := by
  have belows_app : ∀ (xs ys : List D), belows 0 xs = true → belows 0 ys = true → belows 0 (xs ++ ys) = true := fun xs => by
    induction xs with
    | nil => intro ys _ h; exact h
    | cons x xs ih =>
      intro ys h1 h2
      have h1' : (below 0 x && belows 0 xs) = true := h1
      rw [Bool.and_eq_true] at h1'
      show (below 0 x && belows 0 (xs ++ ys)) = true
      rw [h1'.1, ih ys h1'.2 h2]; rfl
  have belows_all : ∀ xs : List D, belows 0 xs = true ↔ ∀ x ∈ xs, below 0 x = true := fun xs => by
    induction xs with
    | nil => exact ⟨fun _ x hx => (nomatch hx), fun _ => rfl⟩
    | cons x xs ih =>
      show ((below 0 x && belows 0 xs) = true) ↔ _
      rw [Bool.and_eq_true, ih]
      simp
  cases h with
  | nil => rfl
  | int => rfl
  | bl => rfl
  | txt => rfl
  | one => rfl
  | non => rfl
  | word => rfl
  | few => rfl
  | lst xs e => subst e; exact hb
  | last xs e =>
    subst e
    exact (belows_all _).mpr fun x hx => (belows_all _).mp hb x ((List.dropLast_sublist xs).subset hx)
  | more xs e =>
    subst e
    exact belows_app _ _ hb ((belows_all _).mpr fun x hx => (belows_all _).mp hb x (List.mem_of_mem_take hx))
  | rev xs e =>
    subst e
    exact (belows_all _).mpr fun x hx => (belows_all _).mp hb x (List.mem_reverse.mp hx)
theorem strange_wp (h : St rest st) {data : D} (hp : plainD data = true) (hb : below 0 data = true) (hi : ∀ i, data = .int i → i.natAbs < 2 ^ 1900) (hl : ∀ xs, data = .tup xs → xs.length ≤ 1000) :
    Wp (callF tbl (k + 2) 22 [.ref 0, data] st) fun d st' => St rest st' ∧ Odd data d := by
  refine call_wp (d := d__law_strange) rfl rfl rfl ?_
  show Wp (evS (callF tbl (k + 1)) b__law_strange [some (.ref 0), some data, none, none] st) _
  have fin : ∀ (d : D) (st' : Store), St rest st' → Odd data d → ∃ r, Fl.rt d = Fl.rt r ∧ Wp (leave false st r st') fun d st' => St rest st' ∧ Odd data d := fun d st' h1 ho => ⟨d, rfl, leave_wp0 (by rw [h1.len, h.len]) (below_mono (Nat.zero_le _) (odd_below ho hb)) ⟨h1, ho⟩⟩
  unfold b__law_strange
  have hw : evE (callF tbl (k + 1)) (.and_ (.bi (.isinst [.int]) (.cons (.var 1) .nil)) (.not_ (.bi (.isinst [.bool]) (.cons (.var 1) .nil)))) [some (.ref 0), some data, none, none] st = .ok (.bl (isInt data)) st := by
    cases data with
    | ref _ => cases hp
    | fn _ => cases hp
    | lok _ => cases hp
    | _ => rfl
  refine wp_seq (wp_asgP (d := .bl (isInt data)) hw ?_)
  refine wp_seq (wp_asgW ?_)
  refine Wp.mono (Q := fun d st' => St rest st' ∧ ∃ v : Nat, v < 11 ∧ d = .int (v : Nat)) ?_ ?_
  · simp only [eS_seq, eS_skip, eS_ret, eS_ex, eS_asg, eS_ite, eS_raise, eE_call, eE_bi, eE_var, eE_cst, eE_glo, eE_fnv, eE_tup, eE_lst, eE_and, eE_or, eE_not, eE_ite, eE_mth, eE_chain, eE_sl, intP, slT, eA_cons, eA_nil, eT_nm, eT_tup, eT_cons, eT_nil, go_ok, go_exc, go_stuck, gv0, gvS, List.set_cons_zero, List.set_cons_succ, b_add, b_sub, b_mul, b_fdiv, b_mod, b_neg, b_abs, b_lt, b_le, b_gt, b_ge, b_eqI, b_neI, b_max, b_min, asBool_bl, mkTup1, mkTup2, b_idx, ix0, ix1, Bool.false_eq_true, reduceIte, b_isinst, b_len, b_all, b_any, b_tuple, b_list, b_append, b_pop, b_rev, b_int, b_isN, b_isNN, eT_sub, mkL_in, mkL_new, Bool.not_true, Bool.not_false, it_two, it_three, lenL, lenTu, mkLst_nil, mkTup3, isTL, isTT, go_assoc, List.set_cons_zero, List.set_cons_succ]
    exact take_wp (m := 11) h (by decide) (by decide)
  rintro d st1 ⟨h1, v, hv, rfl⟩
  simp only [List.set_cons_zero, List.set_cons_succ]
  have hisT := fun st => isT_plain (st := st) hp
  refine wp_seq (wp_iteB (x := decide (v = 0)) (st' := st1) (by simp only [eS_seq, eS_skip, eS_ret, eS_ex, eS_asg, eS_ite, eS_raise, eE_call, eE_bi, eE_var, eE_cst, eE_glo, eE_fnv, eE_tup, eE_lst, eE_and, eE_or, eE_not, eE_ite, eE_mth, eE_chain, eE_sl, intP, slT, eA_cons, eA_nil, eT_nm, eT_tup, eT_cons, eT_nil, go_ok, go_exc, go_stuck, gv0, gvS, List.set_cons_zero, List.set_cons_succ, b_add, b_sub, b_mul, b_fdiv, b_mod, b_neg, b_abs, b_lt, b_le, b_gt, b_ge, b_eqI, b_neI, b_max, b_min, asBool_bl, mkTup1, mkTup2, b_idx, ix0, ix1, Bool.false_eq_true, reduceIte, b_isinst, b_len, b_all, b_any, b_tuple, b_list, b_append, b_pop, b_rev, b_int, b_isN, b_isNN, eT_sub, mkL_in, mkL_new, Bool.not_true, Bool.not_false, it_two, it_three, lenL, lenTu, mkLst_nil, mkTup3, isTL, isTT, go_assoc, show ((v : Int) == 0) = decide (v = 0) from len_dec (m := 0)] <;> rfl) (fun hx => ?_) (fun hx => wp_skip ?_))
  · exact wp_seq (wp_ret (d := .tup []) (st' := st1) (by simp only [eS_seq, eS_skip, eS_ret, eS_ex, eS_asg, eS_ite, eS_raise, eE_call, eE_bi, eE_var, eE_cst, eE_glo, eE_fnv, eE_tup, eE_lst, eE_and, eE_or, eE_not, eE_ite, eE_mth, eE_chain, eE_sl, intP, slT, eA_cons, eA_nil, eT_nm, eT_tup, eT_cons, eT_nil, go_ok, go_exc, go_stuck, gv0, gvS, List.set_cons_zero, List.set_cons_succ, b_add, b_sub, b_mul, b_fdiv, b_mod, b_neg, b_abs, b_lt, b_le, b_gt, b_ge, b_eqI, b_neI, b_max, b_min, asBool_bl, mkTup1, mkTup2, b_idx, ix0, ix1, Bool.false_eq_true, reduceIte, b_isinst, b_len, b_all, b_any, b_tuple, b_list, b_append, b_pop, b_rev, b_int, b_isN, b_isNN, eT_sub, mkL_in, mkL_new, Bool.not_true, Bool.not_false, it_two, it_three, lenL, lenTu, mkLst_nil, mkTup3, isTL, isTT, go_assoc, mkTup0] <;> rfl) (fin _ _ h1 .nil))
  have hx0 : v ≠ 0 := of_decide_eq_false hx
  refine wp_seq (wp_iteB (x := decide (v < 3) && isInt data) (st' := st1) ?_ (fun hx => ?_) (fun hx => wp_skip ?_))
  · have e : decide ((v : Int) < 3) = decide (v < 3) := by
      rw [Bool.eq_iff_iff, decide_eq_true_eq, decide_eq_true_eq]; omega
    cases hv3 : decide (v < 3) <;> simp only [eS_seq, eS_skip, eS_ret, eS_ex, eS_asg, eS_ite, eS_raise, eE_call, eE_bi, eE_var, eE_cst, eE_glo, eE_fnv, eE_tup, eE_lst, eE_and, eE_or, eE_not, eE_ite, eE_mth, eE_chain, eE_sl, intP, slT, eA_cons, eA_nil, eT_nm, eT_tup, eT_cons, eT_nil, go_ok, go_exc, go_stuck, gv0, gvS, List.set_cons_zero, List.set_cons_succ, b_add, b_sub, b_mul, b_fdiv, b_mod, b_neg, b_abs, b_lt, b_le, b_gt, b_ge, b_eqI, b_neI, b_max, b_min, asBool_bl, mkTup1, mkTup2, b_idx, ix0, ix1, Bool.false_eq_true, reduceIte, b_isinst, b_len, b_all, b_any, b_tuple, b_list, b_append, b_pop, b_rev, b_int, b_isN, b_isNN, eT_sub, mkL_in, mkL_new, Bool.not_true, Bool.not_false, it_two, it_three, lenL, lenTu, mkLst_nil, mkTup3, isTL, isTT, go_assoc, e, hv3, Bool.true_and, Bool.false_and]
  · rw [Bool.and_eq_true] at hx
    cases data with
    | int i =>
      have hv3 : v < 3 := of_decide_eq_true hx.1
      have hm : mulOk 2 (v : Int) = true := mulOk_fi (by show (2 : Int).natAbs < _; exact Nat.lt_of_lt_of_le (by decide : (2 : Int).natAbs < 2 ^ 2) (pow_le2 (by omega))) (by
        show (v : Int).natAbs < _
        have : (v : Int).natAbs < 2 ^ 2 := by omega
        exact Nat.lt_of_lt_of_le this (pow_le2 (by omega)))
      exact wp_seq (wp_ret (d := .int (i + 2 * (v : Int) - 3)) (st' := st1) (by simp only [eS_seq, eS_skip, eS_ret, eS_ex, eS_asg, eS_ite, eS_raise, eE_call, eE_bi, eE_var, eE_cst, eE_glo, eE_fnv, eE_tup, eE_lst, eE_and, eE_or, eE_not, eE_ite, eE_mth, eE_chain, eE_sl, intP, slT, eA_cons, eA_nil, eT_nm, eT_tup, eT_cons, eT_nil, go_ok, go_exc, go_stuck, gv0, gvS, List.set_cons_zero, List.set_cons_succ, b_add, b_sub, b_mul, b_fdiv, b_mod, b_neg, b_abs, b_lt, b_le, b_gt, b_ge, b_eqI, b_neI, b_max, b_min, asBool_bl, mkTup1, mkTup2, b_idx, ix0, ix1, Bool.false_eq_true, reduceIte, b_isinst, b_len, b_all, b_any, b_tuple, b_list, b_append, b_pop, b_rev, b_int, b_isN, b_isNN, eT_sub, mkL_in, mkL_new, Bool.not_true, Bool.not_false, it_two, it_three, lenL, lenTu, mkLst_nil, mkTup3, isTL, isTT, go_assoc, hm] <;> rfl) (fin _ _ h1 (.int i _ rfl (by omega))))
    | _ => cases hx.2
  refine wp_seq (wp_iteB (x := decide (v = 3) && isInt data) (st' := st1) ?_ (fun hx => ?_) (fun hx => wp_skip ?_))
  · have e : ((v : Int) == 3) = decide (v = 3) := len_dec (m := 3)
    cases hv3 : decide (v = 3) <;> simp only [eS_seq, eS_skip, eS_ret, eS_ex, eS_asg, eS_ite, eS_raise, eE_call, eE_bi, eE_var, eE_cst, eE_glo, eE_fnv, eE_tup, eE_lst, eE_and, eE_or, eE_not, eE_ite, eE_mth, eE_chain, eE_sl, intP, slT, eA_cons, eA_nil, eT_nm, eT_tup, eT_cons, eT_nil, go_ok, go_exc, go_stuck, gv0, gvS, List.set_cons_zero, List.set_cons_succ, b_add, b_sub, b_mul, b_fdiv, b_mod, b_neg, b_abs, b_lt, b_le, b_gt, b_ge, b_eqI, b_neI, b_max, b_min, asBool_bl, mkTup1, mkTup2, b_idx, ix0, ix1, Bool.false_eq_true, reduceIte, b_isinst, b_len, b_all, b_any, b_tuple, b_list, b_append, b_pop, b_rev, b_int, b_isN, b_isNN, eT_sub, mkL_in, mkL_new, Bool.not_true, Bool.not_false, it_two, it_three, lenL, lenTu, mkLst_nil, mkTup3, isTL, isTT, go_assoc, e, hv3, Bool.true_and, Bool.false_and]
  · rw [Bool.and_eq_true] at hx
    cases data with
    | int i =>
      refine wp_seq (wp_retW ?_)
      have hstr : ∀ st, biV .str [.int i] st = .ok (.str (toString i)) st := fun st => by
        show (if decide (i.natAbs.log2 < 1920) then Res.ok (D.str (toString i)) st else .stuck) = _
        have hlt : i.natAbs.log2 < 1920 := by
          by_cases e : i.natAbs = 0
          · rw [e]; decide
          · exact (Nat.log2_lt e).mpr (Nat.lt_of_lt_of_le (hi i rfl) (pow_le2 (by omega)))
        rw [decide_eq_true hlt]; rfl
      have hmk : ∀ (a b c d e f : D) st, mkLst false [a, b, c, d, e, f] st = .ok (.lst [a, b, c, d, e, f]) st := fun _ _ _ _ _ _ _ => rfl
      simp only [eS_seq, eS_skip, eS_ret, eS_ex, eS_asg, eS_ite, eS_raise, eE_call, eE_bi, eE_var, eE_cst, eE_glo, eE_fnv, eE_tup, eE_lst, eE_and, eE_or, eE_not, eE_ite, eE_mth, eE_chain, eE_sl, intP, slT, eA_cons, eA_nil, eT_nm, eT_tup, eT_cons, eT_nil, go_ok, go_exc, go_stuck, gv0, gvS, List.set_cons_zero, List.set_cons_succ, b_add, b_sub, b_mul, b_fdiv, b_mod, b_neg, b_abs, b_lt, b_le, b_gt, b_ge, b_eqI, b_neI, b_max, b_min, asBool_bl, mkTup1, mkTup2, b_idx, ix0, ix1, Bool.false_eq_true, reduceIte, b_isinst, b_len, b_all, b_any, b_tuple, b_list, b_append, b_pop, b_rev, b_int, b_isN, b_isNN, eT_sub, mkL_in, mkL_new, Bool.not_true, Bool.not_false, it_two, it_three, lenL, lenTu, mkLst_nil, mkTup3, isTL, isTT, go_assoc, hstr, hmk]
      refine Wp.by_ (take_wp (m := 6) h1 (by decide) (by decide)) fun d2 st2 ⟨h2, w, hw, e2⟩ => ?_
      subst e2
      rcases lt6 hw with rfl | rfl | rfl | rfl | rfl | rfl
      · exact Wp.of (ix_lst (i := 0) rfl) (fin _ _ h2 (.bl _ i rfl))
      · exact Wp.of (ix_lst (i := 1) rfl) (fin _ _ h2 (.bl _ i rfl))
      · exact Wp.of (ix_lst (i := 2) rfl) (fin _ _ h2 (.int i _ rfl (by omega)))
      · exact Wp.of (ix_lst (i := 3) rfl) (fin _ _ h2 (.txt _ i rfl))
      · exact Wp.of (ix_lst (i := 4) rfl) (fin _ _ h2 (.one i rfl))
      · exact Wp.of (ix_lst (i := 5) rfl) (fin _ _ h2 .non)
    | _ => cases hx.2
  have tup_of : isTup data = true → ∃ xs, data = .tup xs := fun e => by
    cases data with
    | tup xs => exact ⟨xs, rfl⟩
    | _ => cases e
  refine wp_seq (wp_iteB (x := decide (v = 4) && isTup data) (st' := st1) ?_ (fun hx => ?_) (fun hx => wp_skip ?_))
  · have e : ((v : Int) == 4) = decide (v = 4) := len_dec (m := 4)
    cases hv3 : decide (v = 4) <;> simp only [eS_seq, eS_skip, eS_ret, eS_ex, eS_asg, eS_ite, eS_raise, eE_call, eE_bi, eE_var, eE_cst, eE_glo, eE_fnv, eE_tup, eE_lst, eE_and, eE_or, eE_not, eE_ite, eE_mth, eE_chain, eE_sl, intP, slT, eA_cons, eA_nil, eT_nm, eT_tup, eT_cons, eT_nil, go_ok, go_exc, go_stuck, gv0, gvS, List.set_cons_zero, List.set_cons_succ, b_add, b_sub, b_mul, b_fdiv, b_mod, b_neg, b_abs, b_lt, b_le, b_gt, b_ge, b_eqI, b_neI, b_max, b_min, asBool_bl, mkTup1, mkTup2, b_idx, ix0, ix1, Bool.false_eq_true, reduceIte, b_isinst, b_len, b_all, b_any, b_tuple, b_list, b_append, b_pop, b_rev, b_int, b_isN, b_isNN, eT_sub, mkL_in, mkL_new, Bool.not_true, Bool.not_false, it_two, it_three, lenL, lenTu, mkLst_nil, mkTup3, isTL, isTT, go_assoc, e, hv3, hisT, Bool.true_and, Bool.false_and]
  · rw [Bool.and_eq_true] at hx
    obtain ⟨xs, rfl⟩ := tup_of hx.2
    have hl : ∀ st, listV false (.tup xs) st = .ok (.lst xs) st := fun _ => rfl
    exact wp_seq (wp_ret (d := .lst xs) (st' := st1) (by simp only [eS_seq, eS_skip, eS_ret, eS_ex, eS_asg, eS_ite, eS_raise, eE_call, eE_bi, eE_var, eE_cst, eE_glo, eE_fnv, eE_tup, eE_lst, eE_and, eE_or, eE_not, eE_ite, eE_mth, eE_chain, eE_sl, intP, slT, eA_cons, eA_nil, eT_nm, eT_tup, eT_cons, eT_nil, go_ok, go_exc, go_stuck, gv0, gvS, List.set_cons_zero, List.set_cons_succ, b_add, b_sub, b_mul, b_fdiv, b_mod, b_neg, b_abs, b_lt, b_le, b_gt, b_ge, b_eqI, b_neI, b_max, b_min, asBool_bl, mkTup1, mkTup2, b_idx, ix0, ix1, Bool.false_eq_true, reduceIte, b_isinst, b_len, b_all, b_any, b_tuple, b_list, b_append, b_pop, b_rev, b_int, b_isN, b_isNN, eT_sub, mkL_in, mkL_new, Bool.not_true, Bool.not_false, it_two, it_three, lenL, lenTu, mkLst_nil, mkTup3, isTL, isTT, go_assoc, hl] <;> rfl) (fin _ _ h1 (.lst xs rfl)))
  refine wp_seq (wp_iteB (x := decide (v = 5) && isTup data) (st' := st1) ?_ (fun hx => ?_) (fun hx => wp_skip ?_))
  · have e : ((v : Int) == 5) = decide (v = 5) := len_dec (m := 5)
    cases hv3 : decide (v = 5) <;> simp only [eS_seq, eS_skip, eS_ret, eS_ex, eS_asg, eS_ite, eS_raise, eE_call, eE_bi, eE_var, eE_cst, eE_glo, eE_fnv, eE_tup, eE_lst, eE_and, eE_or, eE_not, eE_ite, eE_mth, eE_chain, eE_sl, intP, slT, eA_cons, eA_nil, eT_nm, eT_tup, eT_cons, eT_nil, go_ok, go_exc, go_stuck, gv0, gvS, List.set_cons_zero, List.set_cons_succ, b_add, b_sub, b_mul, b_fdiv, b_mod, b_neg, b_abs, b_lt, b_le, b_gt, b_ge, b_eqI, b_neI, b_max, b_min, asBool_bl, mkTup1, mkTup2, b_idx, ix0, ix1, Bool.false_eq_true, reduceIte, b_isinst, b_len, b_all, b_any, b_tuple, b_list, b_append, b_pop, b_rev, b_int, b_isN, b_isNN, eT_sub, mkL_in, mkL_new, Bool.not_true, Bool.not_false, it_two, it_three, lenL, lenTu, mkLst_nil, mkTup3, isTL, isTT, go_assoc, e, hv3, hisT, Bool.true_and, Bool.false_and]
  · rw [Bool.and_eq_true] at hx
    obtain ⟨xs, rfl⟩ := tup_of hx.2
    exact wp_seq (wp_ret (d := .tup xs.dropLast) (st' := st1) (by simp only [eS_seq, eS_skip, eS_ret, eS_ex, eS_asg, eS_ite, eS_raise, eE_call, eE_bi, eE_var, eE_cst, eE_glo, eE_fnv, eE_tup, eE_lst, eE_and, eE_or, eE_not, eE_ite, eE_mth, eE_chain, eE_sl, intP, slT, eA_cons, eA_nil, eT_nm, eT_tup, eT_cons, eT_nil, go_ok, go_exc, go_stuck, gv0, gvS, List.set_cons_zero, List.set_cons_succ, b_add, b_sub, b_mul, b_fdiv, b_mod, b_neg, b_abs, b_lt, b_le, b_gt, b_ge, b_eqI, b_neI, b_max, b_min, asBool_bl, mkTup1, mkTup2, b_idx, ix0, ix1, Bool.false_eq_true, reduceIte, b_isinst, b_len, b_all, b_any, b_tuple, b_list, b_append, b_pop, b_rev, b_int, b_isN, b_isNN, eT_sub, mkL_in, mkL_new, Bool.not_true, Bool.not_false, it_two, it_three, lenL, lenTu, mkLst_nil, mkTup3, isTL, isTT, go_assoc, eE_slFT, cut_last] <;> rfl) (fin _ _ h1 (.last xs rfl)))
  refine wp_seq (wp_iteB (x := decide (v = 6) && isTup data) (st' := st1) ?_ (fun hx => ?_) (fun hx => wp_skip ?_))
  · have e : ((v : Int) == 6) = decide (v = 6) := len_dec (m := 6)
    cases hv3 : decide (v = 6) <;> simp only [eS_seq, eS_skip, eS_ret, eS_ex, eS_asg, eS_ite, eS_raise, eE_call, eE_bi, eE_var, eE_cst, eE_glo, eE_fnv, eE_tup, eE_lst, eE_and, eE_or, eE_not, eE_ite, eE_mth, eE_chain, eE_sl, intP, slT, eA_cons, eA_nil, eT_nm, eT_tup, eT_cons, eT_nil, go_ok, go_exc, go_stuck, gv0, gvS, List.set_cons_zero, List.set_cons_succ, b_add, b_sub, b_mul, b_fdiv, b_mod, b_neg, b_abs, b_lt, b_le, b_gt, b_ge, b_eqI, b_neI, b_max, b_min, asBool_bl, mkTup1, mkTup2, b_idx, ix0, ix1, Bool.false_eq_true, reduceIte, b_isinst, b_len, b_all, b_any, b_tuple, b_list, b_append, b_pop, b_rev, b_int, b_isN, b_isNN, eT_sub, mkL_in, mkL_new, Bool.not_true, Bool.not_false, it_two, it_three, lenL, lenTu, mkLst_nil, mkTup3, isTL, isTT, go_assoc, e, hv3, hisT, Bool.true_and, Bool.false_and]
  · rw [Bool.and_eq_true] at hx
    obtain ⟨xs, rfl⟩ := tup_of hx.2
    have hc : cut xs none (some 1) = xs.take 1 := cut_to (i := 1) rfl
    have ha : ∀ st, biV (.add false) [.tup xs, .tup (xs.take 1)] st = .ok (.tup (xs ++ xs.take 1)) st := fun st => addTT (by
      have := hl xs rfl
      rw [List.length_take]; omega)
    exact wp_seq (wp_ret (d := .tup (xs ++ xs.take 1)) (st' := st1) (by simp only [eS_seq, eS_skip, eS_ret, eS_ex, eS_asg, eS_ite, eS_raise, eE_call, eE_bi, eE_var, eE_cst, eE_glo, eE_fnv, eE_tup, eE_lst, eE_and, eE_or, eE_not, eE_ite, eE_mth, eE_chain, eE_sl, intP, slT, eA_cons, eA_nil, eT_nm, eT_tup, eT_cons, eT_nil, go_ok, go_exc, go_stuck, gv0, gvS, List.set_cons_zero, List.set_cons_succ, b_add, b_sub, b_mul, b_fdiv, b_mod, b_neg, b_abs, b_lt, b_le, b_gt, b_ge, b_eqI, b_neI, b_max, b_min, asBool_bl, mkTup1, mkTup2, b_idx, ix0, ix1, Bool.false_eq_true, reduceIte, b_isinst, b_len, b_all, b_any, b_tuple, b_list, b_append, b_pop, b_rev, b_int, b_isN, b_isNN, eT_sub, mkL_in, mkL_new, Bool.not_true, Bool.not_false, it_two, it_three, lenL, lenTu, mkLst_nil, mkTup3, isTL, isTT, go_assoc, eE_slFT, hc, ha] <;> rfl) (fin _ _ h1 (.more xs rfl)))
  refine wp_seq (wp_iteB (x := decide (v = 7) && isTup data) (st' := st1) ?_ (fun hx => ?_) (fun hx => wp_skip ?_))
  · have e : ((v : Int) == 7) = decide (v = 7) := len_dec (m := 7)
    cases hv3 : decide (v = 7) <;> simp only [eS_seq, eS_skip, eS_ret, eS_ex, eS_asg, eS_ite, eS_raise, eE_call, eE_bi, eE_var, eE_cst, eE_glo, eE_fnv, eE_tup, eE_lst, eE_and, eE_or, eE_not, eE_ite, eE_mth, eE_chain, eE_sl, intP, slT, eA_cons, eA_nil, eT_nm, eT_tup, eT_cons, eT_nil, go_ok, go_exc, go_stuck, gv0, gvS, List.set_cons_zero, List.set_cons_succ, b_add, b_sub, b_mul, b_fdiv, b_mod, b_neg, b_abs, b_lt, b_le, b_gt, b_ge, b_eqI, b_neI, b_max, b_min, asBool_bl, mkTup1, mkTup2, b_idx, ix0, ix1, Bool.false_eq_true, reduceIte, b_isinst, b_len, b_all, b_any, b_tuple, b_list, b_append, b_pop, b_rev, b_int, b_isN, b_isNN, eT_sub, mkL_in, mkL_new, Bool.not_true, Bool.not_false, it_two, it_three, lenL, lenTu, mkLst_nil, mkTup3, isTL, isTT, go_assoc, e, hv3, hisT, Bool.true_and, Bool.false_and]
  · rw [Bool.and_eq_true] at hx
    obtain ⟨xs, rfl⟩ := tup_of hx.2
    have hr : ∀ st, revV false (.tup xs) st = .ok (.tup xs.reverse) st := fun _ => rfl
    exact wp_seq (wp_ret (d := .tup xs.reverse) (st' := st1) (by simp only [eS_seq, eS_skip, eS_ret, eS_ex, eS_asg, eS_ite, eS_raise, eE_call, eE_bi, eE_var, eE_cst, eE_glo, eE_fnv, eE_tup, eE_lst, eE_and, eE_or, eE_not, eE_ite, eE_mth, eE_chain, eE_sl, intP, slT, eA_cons, eA_nil, eT_nm, eT_tup, eT_cons, eT_nil, go_ok, go_exc, go_stuck, gv0, gvS, List.set_cons_zero, List.set_cons_succ, b_add, b_sub, b_mul, b_fdiv, b_mod, b_neg, b_abs, b_lt, b_le, b_gt, b_ge, b_eqI, b_neI, b_max, b_min, asBool_bl, mkTup1, mkTup2, b_idx, ix0, ix1, Bool.false_eq_true, reduceIte, b_isinst, b_len, b_all, b_any, b_tuple, b_list, b_append, b_pop, b_rev, b_int, b_isN, b_isNN, eT_sub, mkL_in, mkL_new, Bool.not_true, Bool.not_false, it_two, it_three, lenL, lenTu, mkLst_nil, mkTup3, isTL, isTT, go_assoc, hr] <;> rfl) (fin _ _ h1 (.rev xs rfl)))
  refine wp_seq (wp_iteB (x := decide (v = 8)) (st' := st1) (by simp only [eS_seq, eS_skip, eS_ret, eS_ex, eS_asg, eS_ite, eS_raise, eE_call, eE_bi, eE_var, eE_cst, eE_glo, eE_fnv, eE_tup, eE_lst, eE_and, eE_or, eE_not, eE_ite, eE_mth, eE_chain, eE_sl, intP, slT, eA_cons, eA_nil, eT_nm, eT_tup, eT_cons, eT_nil, go_ok, go_exc, go_stuck, gv0, gvS, List.set_cons_zero, List.set_cons_succ, b_add, b_sub, b_mul, b_fdiv, b_mod, b_neg, b_abs, b_lt, b_le, b_gt, b_ge, b_eqI, b_neI, b_max, b_min, asBool_bl, mkTup1, mkTup2, b_idx, ix0, ix1, Bool.false_eq_true, reduceIte, b_isinst, b_len, b_all, b_any, b_tuple, b_list, b_append, b_pop, b_rev, b_int, b_isN, b_isNN, eT_sub, mkL_in, mkL_new, Bool.not_true, Bool.not_false, it_two, it_three, lenL, lenTu, mkLst_nil, mkTup3, isTL, isTT, go_assoc, show ((v : Int) == 8) = decide (v = 8) from len_dec (m := 8)] <;> rfl) (fun hx => ?_) (fun hx => wp_skip ?_))
  · refine wp_seq (wp_retW ?_)
    have hmk : ∀ (a b c d e f g i : D) st, mkLst false [a, b, c, d, e, f, g, i] st = .ok (.lst [a, b, c, d, e, f, g, i]) st := fun _ _ _ _ _ _ _ _ _ => rfl
    simp only [eS_seq, eS_skip, eS_ret, eS_ex, eS_asg, eS_ite, eS_raise, eE_call, eE_bi, eE_var, eE_cst, eE_glo, eE_fnv, eE_tup, eE_lst, eE_and, eE_or, eE_not, eE_ite, eE_mth, eE_chain, eE_sl, intP, slT, eA_cons, eA_nil, eT_nm, eT_tup, eT_cons, eT_nil, go_ok, go_exc, go_stuck, gv0, gvS, List.set_cons_zero, List.set_cons_succ, b_add, b_sub, b_mul, b_fdiv, b_mod, b_neg, b_abs, b_lt, b_le, b_gt, b_ge, b_eqI, b_neI, b_max, b_min, asBool_bl, mkTup1, mkTup2, b_idx, ix0, ix1, Bool.false_eq_true, reduceIte, b_isinst, b_len, b_all, b_any, b_tuple, b_list, b_append, b_pop, b_rev, b_int, b_isN, b_isNN, eT_sub, mkL_in, mkL_new, Bool.not_true, Bool.not_false, it_two, it_three, lenL, lenTu, mkLst_nil, mkTup3, isTL, isTT, go_assoc, hmk]
    refine Wp.by_ (take_wp (m := 8) h1 (by decide) (by decide)) fun d2 st2 ⟨h2, w, hw, e2⟩ => ?_
    subst e2
    rcases lt8 hw with rfl | rfl | rfl | rfl | rfl | rfl | rfl | rfl
    · exact Wp.of (ix_lst (i := 0) rfl) (fin _ _ h2 (.word _ (by decide +kernel)))
    · exact Wp.of (ix_lst (i := 1) rfl) (fin _ _ h2 (.word _ (by decide +kernel)))
    · exact Wp.of (ix_lst (i := 2) rfl) (fin _ _ h2 (.word _ (by decide +kernel)))
    · exact Wp.of (ix_lst (i := 3) rfl) (fin _ _ h2 (.word _ (by decide +kernel)))
    · exact Wp.of (ix_lst (i := 4) rfl) (fin _ _ h2 (.word _ (by decide +kernel)))
    · exact Wp.of (ix_lst (i := 5) rfl) (fin _ _ h2 (.word _ (by decide +kernel)))
    · exact Wp.of (ix_lst (i := 6) rfl) (fin _ _ h2 (.word _ (by decide +kernel)))
    · exact Wp.of (ix_lst (i := 7) rfl) (fin _ _ h2 (.word _ (by decide +kernel)))
  refine wp_seq (wp_iteB (x := decide (v = 9)) (st' := st1) (by simp only [eS_seq, eS_skip, eS_ret, eS_ex, eS_asg, eS_ite, eS_raise, eE_call, eE_bi, eE_var, eE_cst, eE_glo, eE_fnv, eE_tup, eE_lst, eE_and, eE_or, eE_not, eE_ite, eE_mth, eE_chain, eE_sl, intP, slT, eA_cons, eA_nil, eT_nm, eT_tup, eT_cons, eT_nil, go_ok, go_exc, go_stuck, gv0, gvS, List.set_cons_zero, List.set_cons_succ, b_add, b_sub, b_mul, b_fdiv, b_mod, b_neg, b_abs, b_lt, b_le, b_gt, b_ge, b_eqI, b_neI, b_max, b_min, asBool_bl, mkTup1, mkTup2, b_idx, ix0, ix1, Bool.false_eq_true, reduceIte, b_isinst, b_len, b_all, b_any, b_tuple, b_list, b_append, b_pop, b_rev, b_int, b_isN, b_isNN, eT_sub, mkL_in, mkL_new, Bool.not_true, Bool.not_false, it_two, it_three, lenL, lenTu, mkLst_nil, mkTup3, isTL, isTT, go_assoc, show ((v : Int) == 9) = decide (v = 9) from len_dec (m := 9)] <;> rfl) (fun hx => ?_) (fun hx => wp_skip ?_))
  · refine wp_seq (wp_retW ?_)
    simp only [eE_call, eA_cons, eA_nil, eE_var, eE_cst, gv0, gvS, go_ok, go_assoc]
    refine (take_wp (m := 4) h1 (by decide) (by decide)).mono ?_
    rintro d2 st2 ⟨h2, w, hw, rfl⟩
    exact fin _ _ h2 (.few w hw)
  exact wp_seq (wp_ret (d := .non) (st' := st1) (by simp only [eS_seq, eS_skip, eS_ret, eS_ex, eS_asg, eS_ite, eS_raise, eE_call, eE_bi, eE_var, eE_cst, eE_glo, eE_fnv, eE_tup, eE_lst, eE_and, eE_or, eE_not, eE_ite, eE_mth, eE_chain, eE_sl, intP, slT, eA_cons, eA_nil, eT_nm, eT_tup, eT_cons, eT_nil, go_ok, go_exc, go_stuck, gv0, gvS, List.set_cons_zero, List.set_cons_succ, b_add, b_sub, b_mul, b_fdiv, b_mod, b_neg, b_abs, b_lt, b_le, b_gt, b_ge, b_eqI, b_neI, b_max, b_min, asBool_bl, mkTup1, mkTup2, b_idx, ix0, ix1, Bool.false_eq_true, reduceIte, b_isinst, b_len, b_all, b_any, b_tuple, b_list, b_append, b_pop, b_rev, b_int, b_isN, b_isNN, eT_sub, mkL_in, mkL_new, Bool.not_true, Bool.not_false, it_two, it_three, lenL, lenTu, mkLst_nil, mkTup3, isTL, isTT, go_assoc] <;> rfl) (fin _ _ h1 .non))
end
end K82
namespace K82
open PySem PC
/-- data that may be spoilt, so deep -/
def Nice : Nat → D → Prop
  | 0, .tup _ => False
  | f + 1, .tup xs => xs.length ≤ 1000 ∧ ∀ x ∈ xs, Nice f x
  | _, .int i => i.natAbs < 2 ^ 1900
  | _, .ref _ => False
  | _, .lok _ => False
  | _, .fn _ => False
  | _, .lst _ => False
  | _, _ => True
theorem Nice.plain {f : Nat} {d : D} (h : Nice f d) : plainD d = true := by
  cases d with
  | ref _ => cases f <;> exact h.elim
  | fn _ => cases f <;> exact h.elim
  | lok _ => cases f <;> exact h.elim
  | _ => rfl
theorem belows_app0 : ∀ {xs ys : List D}, belows 0 xs = true → belows 0 ys = true → belows 0 (xs ++ ys) = true
  | [], _, _, h => h
  | x :: xs, ys, h1, h2 => by
    have h1' : (below 0 x && belows 0 xs) = true := h1
    rw [Bool.and_eq_true] at h1'
    show (below 0 x && belows 0 (xs ++ ys)) = true
    rw [h1'.1, belows_app0 h1'.2 h2]; rfl
theorem belows_all0 : ∀ {xs : List D}, belows 0 xs = true ↔ ∀ x ∈ xs, below 0 x = true
  | [] => ⟨fun _ x hx => (nomatch hx), fun _ => rfl⟩
  | x :: xs => by
    show ((below 0 x && belows 0 xs) = true) ↔ _
    rw [Bool.and_eq_true, belows_all0]
    simp
theorem Nice.below : ∀ {f : Nat} {d : D}, Nice f d → below 0 d = true
  | 0, .tup _, h => h.elim
  | f + 1, .tup xs, h => belows_all0.mpr fun x hx => (h.2 x hx).below
  | f, .ref _, h => by cases f <;> exact h.elim
  | f, .lok _, h => by cases f <;> exact h.elim
  | f, .lst _, h => by cases f <;> exact h.elim
  | f, .fn _, h => by cases f <;> exact h.elim
  | f, .non, h => rfl
  | f, .bl _, h => rfl
  | f, .int _, h => rfl
  | f, .str _, h => rfl
theorem Nice.int {f : Nat} {d : D} (h : Nice f d) : ∀ i, d = .int i → i.natAbs < 2 ^ 1900 := fun i e => by
  subst e
  cases f <;> exact h
theorem Nice.len {f : Nat} {d : D} (h : Nice f d) : ∀ xs, d = .tup xs → xs.length ≤ 1000 := fun i e => by
  subst e
  cases f with
  | zero => exact h.elim
  | succ f => exact h.1
/-- what comes of data that is bent -/
inductive Bend : D → D → Prop
  | odd {data d : D} (h : Odd data d) : Bend data d
  | at_ {xs : List D} {x y : D} (i : Nat) (h : xs[i]? = some x) (b : Bend x y) : Bend (.tup xs) (.tup (xs.take i ++ [y] ++ xs.drop (i + 1)))
theorem Bend.below0 {data d : D} (h : Bend data d) : PC.below 0 data = true → PC.below 0 d = true := by
  induction h with
  | odd h => exact odd_below h
  | at_ i h b ih =>
    intro hb
    have hb := belows_all0.mp hb
    refine belows_app0 (belows_app0 (belows_all0.mpr fun x hx => hb x (List.mem_of_mem_take hx)) ?_) (belows_all0.mpr fun x hx => hb x (List.mem_of_mem_drop hx))
    show (PC.below 0 _ && true) = true
    rw [ih (hb _ (List.mem_of_getElem? h))]; rfl
section
variable {k : Nat} {rest : Store}
theorem bent_wp : ∀ (f : Nat) (data : D) (depth : Nat) (st : Store), St rest st → Nice f data → Wp (callF tbl (k + f + 3) 23 [.ref 0, data, .int (depth : Nat)] st) fun d st' => St rest st' ∧ Bend data d := fun f => by
  induction f with
  | zero =>
    intro data depth st h hN
    refine call_wp (k := k + 2) (d := d__law_bent) rfl rfl rfl ?_
    show Wp (evS (callF tbl (k + 2)) b__law_bent [some (.ref 0), some data, some (.int (depth : Nat)), none] st) _
    unfold b__law_bent
    have hnt : isTup data = false := by
      cases data with
      | tup xs => exact hN.elim
      | _ => rfl
    have hisT := isT_plain (st := st) hN.plain
    rw [hnt] at hisT
    refine wp_seq (wp_iteT (st' := st) (by simp only [eS_seq, eS_skip, eS_ret, eS_ex, eS_asg, eS_ite, eS_raise, eE_call, eE_bi, eE_var, eE_cst, eE_glo, eE_fnv, eE_tup, eE_lst, eE_and, eE_or, eE_not, eE_ite, eE_mth, eE_chain, eE_sl, intP, slT, eA_cons, eA_nil, eT_nm, eT_tup, eT_cons, eT_nil, go_ok, go_exc, go_stuck, gv0, gvS, List.set_cons_zero, List.set_cons_succ, b_add, b_sub, b_mul, b_fdiv, b_mod, b_neg, b_abs, b_lt, b_le, b_gt, b_ge, b_eqI, b_neI, b_max, b_min, asBool_bl, mkTup1, mkTup2, b_idx, ix0, ix1, Bool.false_eq_true, reduceIte, b_isinst, b_len, b_all, b_any, b_tuple, b_list, b_append, b_pop, b_rev, b_int, b_isN, b_isNN, eT_sub, mkL_in, mkL_new, Bool.not_true, Bool.not_false, it_two, it_three, lenL, lenTu, mkLst_nil, mkTup3, isTL, isTT, go_assoc, hisT] <;> rfl) (wp_seq (wp_retW ?_)))
    simp only [eE_call, eA_cons, eA_nil, eE_var, eE_cst, gv0, gvS, go_ok, go_assoc]
    refine (strange_wp (k := k) h hN.plain hN.below hN.int hN.len).mono ?_
    rintro d st1 ⟨h1, ho⟩
    exact ⟨_, rfl, leave_wp0 (by rw [h1.len, h.len]) (below_mono (Nat.zero_le _) (odd_below ho hN.below)) ⟨h1, .odd ho⟩⟩
  | succ f ih =>
    intro data depth st h hN
    refine call_wp (k := k + (f + 1) + 2) (d := d__law_bent) rfl rfl rfl ?_
    show Wp (evS (callF tbl (k + (f + 1) + 2)) b__law_bent [some (.ref 0), some data, some (.int (depth : Nat)), none] st) _
    unfold b__law_bent
    have fin : ∀ (d : D) (st' : Store), St rest st' → Bend data d → ∃ r, Fl.rt d = Fl.rt r ∧ Wp (leave false st r st') fun d st' => St rest st' ∧ Bend data d := fun d st' h1 ho => ⟨d, rfl, leave_wp0 (by rw [h1.len, h.len]) (below_mono (Nat.zero_le _) (ho.below0 hN.below)) ⟨h1, ho⟩⟩
    have hisT := fun st => isT_plain (st := st) hN.plain
    have hstr : ∀ (st1 : Store), St rest st1 → Wp (evS (callF tbl (k + (f + 1) + 2)) (.seq (.ret (.call 22 (.cons (.var 0) (.cons (.var 1) .nil)))) .skip) [some (.ref 0), some data, some (.int (depth : Nat)), none] st1) (Next (fun ρ' st1 => Wp (evS (callF tbl (k + (f + 1) + 2)) (.seq (.asg (.nm 3) (.call 17 (.cons (.var 0) (.cons (.bi .len (.cons (.var 1) .nil)) .nil)))) (.seq (.ret (.bi (.add false) (.cons (.bi (.add false) (.cons (.sl false false true (.var 1) .nil (.var 3)) (.cons (.tup (.cons (.call 23 (.cons (.var 0) (.cons (.bi .idx (.cons (.var 1) (.cons (.var 3) .nil))) (.cons (.bi (.add false) (.cons (.var 2) (.cons (.cst (.int 1)) .nil))) .nil)))) .nil)) .nil))) (.cons (.sl false true false (.var 1) (.bi (.add false) (.cons (.var 3) (.cons (.cst (.int 1)) .nil))) .nil) .nil)))) .skip)) ρ' st1) fun f st' => ∃ r, f = Fl.rt r ∧ Wp (leave false st r st') fun d st' => St rest st' ∧ Bend data d) fun f st' => ∃ r, f = Fl.rt r ∧ Wp (leave false st r st') fun d st' => St rest st' ∧ Bend data d) := fun st1 h1 => by
      refine wp_seq (wp_retW ?_)
      simp only [eE_call, eA_cons, eA_nil, eE_var, eE_cst, gv0, gvS, go_ok, go_assoc]
      refine (strange_wp (k := k + (f + 1)) (st := st1) h1 hN.plain hN.below hN.int hN.len).mono ?_
      rintro d st2 ⟨h2, ho⟩
      exact fin _ _ h2 (.odd ho)
    refine wp_seq (wp_iteW ?_)
    cases htu : isTup data with
    | false =>
      refine Wp.of (a := .bl true) (st := st) (by simp only [eS_seq, eS_skip, eS_ret, eS_ex, eS_asg, eS_ite, eS_raise, eE_call, eE_bi, eE_var, eE_cst, eE_glo, eE_fnv, eE_tup, eE_lst, eE_and, eE_or, eE_not, eE_ite, eE_mth, eE_chain, eE_sl, intP, slT, eA_cons, eA_nil, eT_nm, eT_tup, eT_cons, eT_nil, go_ok, go_exc, go_stuck, gv0, gvS, List.set_cons_zero, List.set_cons_succ, b_add, b_sub, b_mul, b_fdiv, b_mod, b_neg, b_abs, b_lt, b_le, b_gt, b_ge, b_eqI, b_neI, b_max, b_min, asBool_bl, mkTup1, mkTup2, b_idx, ix0, ix1, Bool.false_eq_true, reduceIte, b_isinst, b_len, b_all, b_any, b_tuple, b_list, b_append, b_pop, b_rev, b_int, b_isN, b_isNN, eT_sub, mkL_in, mkL_new, Bool.not_true, Bool.not_false, it_two, it_three, lenL, lenTu, mkLst_nil, mkTup3, isTL, isTT, go_assoc, hisT, htu] <;> rfl) ⟨true, rfl, ?_⟩
      rw [if_pos rfl]
      exact hstr st h
    | true =>
      obtain ⟨xs, rfl⟩ : ∃ xs, data = .tup xs := by
        cases data with
        | tup xs => exact ⟨xs, rfl⟩
        | _ => cases htu
      have hlx := hN.1
      have hlen : ((xs.length : Int) == 0) = decide (xs.length = 0) := len_dec (m := 0)
      cases h0 : decide (xs.length = 0) with
      | true =>
        refine Wp.of (a := .bl true) (st := st) (by simp only [eS_seq, eS_skip, eS_ret, eS_ex, eS_asg, eS_ite, eS_raise, eE_call, eE_bi, eE_var, eE_cst, eE_glo, eE_fnv, eE_tup, eE_lst, eE_and, eE_or, eE_not, eE_ite, eE_mth, eE_chain, eE_sl, intP, slT, eA_cons, eA_nil, eT_nm, eT_tup, eT_cons, eT_nil, go_ok, go_exc, go_stuck, gv0, gvS, List.set_cons_zero, List.set_cons_succ, b_add, b_sub, b_mul, b_fdiv, b_mod, b_neg, b_abs, b_lt, b_le, b_gt, b_ge, b_eqI, b_neI, b_max, b_min, asBool_bl, mkTup1, mkTup2, b_idx, ix0, ix1, Bool.false_eq_true, reduceIte, b_isinst, b_len, b_all, b_any, b_tuple, b_list, b_append, b_pop, b_rev, b_int, b_isN, b_isNN, eT_sub, mkL_in, mkL_new, Bool.not_true, Bool.not_false, it_two, it_three, lenL, lenTu, mkLst_nil, mkTup3, isTL, isTT, go_assoc, hlen, h0] <;> rfl) ⟨true, rfl, ?_⟩
        rw [if_pos rfl]
        exact hstr st h
      | false =>
        have h0' : xs.length ≠ 0 := of_decide_eq_false h0
        cases h7 : decide ((7 : Int) < (depth : Int)) with
        | true =>
          refine Wp.of (a := .bl true) (st := st) (by simp only [eS_seq, eS_skip, eS_ret, eS_ex, eS_asg, eS_ite, eS_raise, eE_call, eE_bi, eE_var, eE_cst, eE_glo, eE_fnv, eE_tup, eE_lst, eE_and, eE_or, eE_not, eE_ite, eE_mth, eE_chain, eE_sl, intP, slT, eA_cons, eA_nil, eT_nm, eT_tup, eT_cons, eT_nil, go_ok, go_exc, go_stuck, gv0, gvS, List.set_cons_zero, List.set_cons_succ, b_add, b_sub, b_mul, b_fdiv, b_mod, b_neg, b_abs, b_lt, b_le, b_gt, b_ge, b_eqI, b_neI, b_max, b_min, asBool_bl, mkTup1, mkTup2, b_idx, ix0, ix1, Bool.false_eq_true, reduceIte, b_isinst, b_len, b_all, b_any, b_tuple, b_list, b_append, b_pop, b_rev, b_int, b_isN, b_isNN, eT_sub, mkL_in, mkL_new, Bool.not_true, Bool.not_false, it_two, it_three, lenL, lenTu, mkLst_nil, mkTup3, isTL, isTT, go_assoc, hlen, h0, h7] <;> rfl) ⟨true, rfl, ?_⟩
          rw [if_pos rfl]
          exact hstr st h
        | false =>
          refine Wp.mono (Q := fun d st' => St rest st' ∧ ∃ x, d = .bl x) ?_ ?_
          · simp only [eS_seq, eS_skip, eS_ret, eS_ex, eS_asg, eS_ite, eS_raise, eE_call, eE_bi, eE_var, eE_cst, eE_glo, eE_fnv, eE_tup, eE_lst, eE_and, eE_or, eE_not, eE_ite, eE_mth, eE_chain, eE_sl, intP, slT, eA_cons, eA_nil, eT_nm, eT_tup, eT_cons, eT_nil, go_ok, go_exc, go_stuck, gv0, gvS, List.set_cons_zero, List.set_cons_succ, b_add, b_sub, b_mul, b_fdiv, b_mod, b_neg, b_abs, b_lt, b_le, b_gt, b_ge, b_eqI, b_neI, b_max, b_min, asBool_bl, mkTup1, mkTup2, b_idx, ix0, ix1, Bool.false_eq_true, reduceIte, b_isinst, b_len, b_all, b_any, b_tuple, b_list, b_append, b_pop, b_rev, b_int, b_isN, b_isNN, eT_sub, mkL_in, mkL_new, Bool.not_true, Bool.not_false, it_two, it_three, lenL, lenTu, mkLst_nil, mkTup3, isTL, isTT, go_assoc, hlen, h0, h7]
            refine Wp.by_ (take_wp (m := 6) (k := k + (f + 1) + 1) h (by decide) (by decide)) fun d2 st2 ⟨h2, w, hw, e2⟩ => ?_
            subst e2
            exact Wp.of rfl ⟨h2, _, rfl⟩
          · rintro d st1 ⟨h1, x, rfl⟩
            refine ⟨x, rfl, ?_⟩
            cases x with
            | true =>
              rw [if_pos rfl]
              exact hstr st1 h1
            | false =>
              rw [if_neg (by decide)]
              refine wp_skip ?_
              refine wp_seq (wp_asgW ?_)
              refine Wp.mono (Q := fun d st' => St rest st' ∧ ∃ v : Nat, v < xs.length ∧ d = .int (v : Nat)) ?_ ?_
              · simp only [eS_seq, eS_skip, eS_ret, eS_ex, eS_asg, eS_ite, eS_raise, eE_call, eE_bi, eE_var, eE_cst, eE_glo, eE_fnv, eE_tup, eE_lst, eE_and, eE_or, eE_not, eE_ite, eE_mth, eE_chain, eE_sl, intP, slT, eA_cons, eA_nil, eT_nm, eT_tup, eT_cons, eT_nil, go_ok, go_exc, go_stuck, gv0, gvS, List.set_cons_zero, List.set_cons_succ, b_add, b_sub, b_mul, b_fdiv, b_mod, b_neg, b_abs, b_lt, b_le, b_gt, b_ge, b_eqI, b_neI, b_max, b_min, asBool_bl, mkTup1, mkTup2, b_idx, ix0, ix1, Bool.false_eq_true, reduceIte, b_isinst, b_len, b_all, b_any, b_tuple, b_list, b_append, b_pop, b_rev, b_int, b_isN, b_isNN, eT_sub, mkL_in, mkL_new, Bool.not_true, Bool.not_false, it_two, it_three, lenL, lenTu, mkLst_nil, mkTup3, isTL, isTT, go_assoc]
                exact take_wp (m := xs.length) (k := k + (f + 1) + 1) h1 (by omega) (by omega)
              rintro d st2 ⟨h2, i, hi, rfl⟩
              have hg : xs[i]? = some xs[i] := List.getElem?_eq_getElem hi
              have g1 : ∀ st, idxV (.tup xs) (.int (i : Nat)) st = .ok xs[i] st := fun st => ix_at hg
              have hc1 : cut xs none (some (i : Int)) = xs.take i := cut_to (i := i) rfl
              have hc2 : cut xs (some ((i : Int) + 1)) none = xs.drop (i + 1) := cut_from (i := i + 1) (by omega)
              refine wp_seq (wp_retW ?_)
              refine Wp.mono (Q := fun d st' => St rest st' ∧ Bend (.tup xs) d) ?_ fun d st' ⟨a, b⟩ => fin d st' a b
              simp only [eS_seq, eS_skip, eS_ret, eS_ex, eS_asg, eS_ite, eS_raise, eE_call, eE_bi, eE_var, eE_cst, eE_glo, eE_fnv, eE_tup, eE_lst, eE_and, eE_or, eE_not, eE_ite, eE_mth, eE_chain, eE_sl, intP, slT, eA_cons, eA_nil, eT_nm, eT_tup, eT_cons, eT_nil, go_ok, go_exc, go_stuck, gv0, gvS, List.set_cons_zero, List.set_cons_succ, b_add, b_sub, b_mul, b_fdiv, b_mod, b_neg, b_abs, b_lt, b_le, b_gt, b_ge, b_eqI, b_neI, b_max, b_min, asBool_bl, mkTup1, mkTup2, b_idx, ix0, ix1, Bool.false_eq_true, reduceIte, b_isinst, b_len, b_all, b_any, b_tuple, b_list, b_append, b_pop, b_rev, b_int, b_isN, b_isNN, eT_sub, mkL_in, mkL_new, Bool.not_true, Bool.not_false, it_two, it_three, lenL, lenTu, mkLst_nil, mkTup3, isTL, isTT, go_assoc, List.set_cons_zero, List.set_cons_succ, eE_slFT, eE_slTF, hc1, hc2, g1]
              refine Wp.by_ (ih xs[i] (depth + 1) st2 h2 (hN.2 _ (List.getElem_mem hi))) fun d st3 ⟨h3, hb⟩ => ?_
              have hm : mkTup [d] st3 = .ok (.tup [d]) st3 := rfl
              have ha1 : biV (.add false) [.tup (xs.take i), .tup [d]] st3 = .ok (.tup (xs.take i ++ [d])) st3 := addTT (by
                rw [List.length_take]; simp only [List.length_cons, List.length_nil]; omega)
              have ha2 : biV (.add false) [.tup (xs.take i ++ [d]), .tup (xs.drop (i + 1))] st3 = .ok (.tup (xs.take i ++ [d] ++ xs.drop (i + 1))) st3 := addTT (by
                rw [List.length_append, List.length_take, List.length_drop]; simp only [List.length_cons, List.length_nil]; omega)
              simp only [eS_seq, eS_skip, eS_ret, eS_ex, eS_asg, eS_ite, eS_raise, eE_call, eE_bi, eE_var, eE_cst, eE_glo, eE_fnv, eE_tup, eE_lst, eE_and, eE_or, eE_not, eE_ite, eE_mth, eE_chain, eE_sl, intP, slT, eA_cons, eA_nil, eT_nm, eT_tup, eT_cons, eT_nil, go_ok, go_exc, go_stuck, gv0, gvS, List.set_cons_zero, List.set_cons_succ, b_add, b_sub, b_mul, b_fdiv, b_mod, b_neg, b_abs, b_lt, b_le, b_gt, b_ge, b_eqI, b_neI, b_max, b_min, asBool_bl, mkTup1, mkTup2, b_idx, ix0, ix1, Bool.false_eq_true, reduceIte, b_isinst, b_len, b_all, b_any, b_tuple, b_list, b_append, b_pop, b_rev, b_int, b_isN, b_isNN, eT_sub, mkL_in, mkL_new, Bool.not_true, Bool.not_false, it_two, it_three, lenL, lenTu, mkLst_nil, mkTup3, isTL, isTT, go_assoc, hm, ha1, ha2]
              exact Wp.ok ⟨h3, .at_ i hg hb⟩
end
end K82
set_option Elab.async false
set_option linter.all false
set_option maxRecDepth 100000
set_option maxHeartbeats 2000000
namespace K82
open PySem PC
def Leaf (v : D) : Prop := plainD v = true ∧ ∀ d, v = .int d → d.natAbs < 2 ^ 901
theorem leaf_int {i : Int} (h : i.natAbs < 2 ^ 901) : Leaf (.int i) := ⟨rfl, fun d e => by cases e; exact h⟩
theorem pow900 : (2 : Nat) ^ 901 = 2 ^ 900 * 2 := Nat.pow_succ 2 900
theorem one900 : 1 ≤ 2 ^ 900 := Nat.one_le_pow _ _ (by decide)
theorem four900 : 4 ≤ 2 ^ 901 := Nat.le_trans (by decide : 4 ≤ 2 ^ 2) (pow_le2 (by omega))
theorem leaf_of {i : Int} (hi : i.natAbs < 2 ^ 900) {v : D} (h : Bend (.int i) v) : Leaf v := by
  have h1 := pow900
  have h2 := one900
  have h4 := four900
  cases h with
  | odd h =>
    cases h with
    | int a j e hj =>
      cases e
      exact leaf_int (by omega)
    | few w hw => exact leaf_int (by omega)
    | lst xs e => cases e
    | last xs e => cases e
    | more xs e => cases e
    | rev xs e => cases e
    | _ => exact ⟨rfl, fun d e => by cases e⟩
def Itm2 (x : D) : Prop := Itm x ∧ (isRatioD x = true → Sz (decR x) 901)
theorem itm2_pair {a b : D} (ha : Leaf a) (hb : Leaf b) : Itm2 (.tup [a, b]) := by
  refine ⟨⟨ha.1, hb.1, fun d e => ?_⟩, fun h => ?_⟩
  · show d.natAbs < 2 ^ 9000
    exact Nat.lt_of_lt_of_le (hb.2 d e) (pow_le2 (by omega))
  · unfold isRatioD at h
    split at h
    · rename_i n d heq
      cases heq
      rw [Bool.and_eq_true] at h
      have h1 : 0 < d := of_decide_eq_true h.1
      exact divInt_sz (by omega) (ha.2 n rfl) (hb.2 d rfl)
    · cases h
theorem itm2_other {x : D} (h : Itm x) (hr : isRatioD x = false) : Itm2 x := ⟨h, fun e => by rw [hr] at e; cases e⟩
theorem itm2_of {n d : Int} (hn : n.natAbs < 2 ^ 900) (hd : d.natAbs < 2 ^ 900) {x : D} (h : Bend (.tup [.int n, .int d]) x) : Itm2 x := by
  have h1 := pow900
  have ln : Leaf (.int n) := leaf_int (by omega)
  have ld : Leaf (.int d) := leaf_int (by omega)
  cases h with
  | odd h =>
    cases h with
    | int a j e hj => cases e
    | bl b i e => cases e
    | txt s i e => cases e
    | one i e => cases e
    | rev xs e => cases e; exact itm2_pair ld ln
    | lst xs e => cases e; exact itm2_other rfl rfl
    | last xs e => cases e; exact itm2_other rfl rfl
    | more xs e => cases e; exact itm2_other rfl rfl
    | nil => exact itm2_other rfl rfl
    | non => exact itm2_other rfl rfl
    | word s hs => exact itm2_other rfl rfl
    | few v hv => exact itm2_other rfl rfl
  | at_ i hi b =>
    match i, hi with
    | 0, hi =>
      cases hi
      exact itm2_pair (leaf_of hn b) ld
    | 1, hi =>
      cases hi
      exact itm2_pair ln (leaf_of hd b)
/-- a row of a paper, fine for both judges -/
def RowGood (b : D) : Prop := RowAsk b ∧ ∀ xs, b = .tup xs → xs.all isRatioD = true → ∃ (z : Int) (X : Nat), z ≠ 0 ∧ z.natAbs < 2 ^ 2000 ∧ X < 2 ^ 4000 ∧ ∀ x ∈ xs, Ov z X (decR x)
theorem rowgood_plain {b : D} (h : plainD b = true) (hn : ∀ xs, b ≠ .tup xs) : RowGood b := ⟨⟨h, fun xs e => absurd e (hn xs)⟩, fun xs e => absurd e (hn xs)⟩
theorem itm_enc {p : Rat} {b : Nat} (h : Sz p b) (hb : b ≤ 9000) : Itm (encR p) := ⟨rfl, rfl, fun d e => by
  cases e
  show ((p.den : Int)).natAbs < 2 ^ 9000
  rw [Int.natAbs_natCast]
  exact Nat.lt_of_lt_of_le h.2 (pow_le2 hb)⟩
/-- fractions over one small denominator -/
structure Small (xs : List D) : Prop where
  len : xs.length ≤ 41
  ex : ∃ (z : Int) (X : Nat), z ≠ 0 ∧ z.natAbs < 2 ^ 900 ∧ X < 2 ^ 900 ∧ ∀ x ∈ xs, ∃ p, x = encR p ∧ Ov z X p
theorem Small.sub {xs ys : List D} (h : Small xs) (hl : ys.length ≤ 42) (hs : ∀ y ∈ ys, y ∈ xs) : RowGood (.tup ys) := by
  obtain ⟨z, X, z0, zb, xb, hx⟩ := h.ex
  refine ⟨⟨rfl, fun zs e => ?_⟩, fun zs e _ => ?_⟩
  · cases e
    refine ⟨by omega, fun x hm => ?_⟩
    obtain ⟨p, rfl, hp⟩ := hx x (hs x hm)
    exact itm_enc (ov_sz hp z0 xb zb) (by omega)
  · cases e
    refine ⟨z, X, z0, Nat.lt_of_lt_of_le zb (pow_le2 (by omega)), Nat.lt_of_lt_of_le xb (pow_le2 (by omega)), fun x hm => ?_⟩
    obtain ⟨p, rfl, hp⟩ := hx x (hs x hm)
    rw [dec_enc]; exact hp
theorem ov_scale {z e : Int} {X : Nat} {q : Rat} (h : Ov z X q) (he : e ≠ 0) : Ov (z * e) (X * e.natAbs) q := by
  obtain ⟨n, hn, rfl⟩ := h
  refine ⟨n * e, by rw [Int.natAbs_mul]; exact Nat.mul_le_mul_right _ hn, ?_⟩
  have := intCast_ne he
  rw [Rat.intCast_mul, Rat.intCast_mul]
  grind
theorem Small.bent {xs : List D} (h : Small xs) {b : D} (hb : Bend (.tup xs) b) : RowGood b := by
  have hl := h.len
  cases hb with
  | odd ho =>
    cases ho with
    | int a j e hj => cases e
    | bl b i e => cases e
    | txt s i e => cases e
    | one i e => cases e
    | rev ys e => cases e; exact h.sub (by rw [List.length_reverse]; omega) fun y hy => List.mem_reverse.mp hy
    | lst ys e => cases e; exact rowgood_plain rfl fun _ e => by cases e
    | last ys e => cases e; exact h.sub (by rw [List.length_dropLast]; omega) fun y hy => (List.dropLast_sublist xs).subset hy
    | more ys e =>
      cases e
      refine h.sub (by rw [List.length_append, List.length_take]; omega) fun y hy => ?_
      rcases List.mem_append.mp hy with q | q
      · exact q
      · exact List.mem_of_mem_take q
    | nil => exact h.sub (by decide) fun y hy => nomatch hy
    | non => exact rowgood_plain rfl fun _ e => by cases e
    | word s hs => exact rowgood_plain rfl fun _ e => by cases e
    | few v hv => exact rowgood_plain rfl fun _ e => by cases e
  | at_ i hi hb =>
    rename_i x y
    obtain ⟨z, X, z0, zb, xb, hx⟩ := h.ex
    obtain ⟨p, rfl, hp⟩ := hx x (List.mem_of_getElem? hi)
    have hps := ov_sz hp z0 xb zb
    have hy := itm2_of hps.1 (by rw [Int.natAbs_natCast]; exact hps.2) hb
    have mem : ∀ w ∈ xs.take i ++ [y] ++ xs.drop (i + 1), w ∈ xs ∨ w = y := fun w hw => by
      rcases List.mem_append.mp hw with q | q
      · rcases List.mem_append.mp q with q | q
        · exact .inl (List.mem_of_mem_take q)
        · exact .inr (List.mem_singleton.mp q)
      · exact .inl (List.mem_of_mem_drop q)
    refine ⟨⟨rfl, fun zs e => ?_⟩, fun zs e hall => ?_⟩
    · cases e
      refine ⟨?_, fun w hw => ?_⟩
      · rw [List.length_append, List.length_append, List.length_take, List.length_drop]
        simp only [List.length_cons, List.length_nil]
        omega
      · rcases mem w hw with q | rfl
        · obtain ⟨p, rfl, hp⟩ := hx w q
          exact itm_enc (ov_sz hp z0 xb zb) (by omega)
        · exact hy.1
    · cases e
      have hyr : isRatioD y = true := List.all_eq_true.mp hall y (by simp)
      have hys := hy.2 hyr
      have e0 : ((decR y).den : Int) ≠ 0 := den_int_ne _
      have hzb : (z * ((decR y).den : Int)).natAbs < 2 ^ 1801 := by
        rw [Int.natAbs_mul, Int.natAbs_natCast]; exact mul_lt_pow zb hys.2
      have hX1 : X * ((decR y).den : Int).natAbs < 2 ^ 1801 := by
        rw [Int.natAbs_natCast]; exact mul_lt_pow xb hys.2
      have hX2 : (decR y).num.natAbs * z.natAbs < 2 ^ 1801 := by
        have := mul_lt_pow hys.1 zb
        rwa [Nat.add_comm] at this
      refine ⟨z * ((decR y).den : Int), 2 ^ 1801, Int.mul_ne_zero z0 e0, Nat.lt_of_lt_of_le hzb (pow_le2 (by omega)), Nat.pow_lt_pow_right (by decide) (by omega), fun w hw => ?_⟩
      rcases mem w hw with q | rfl
      · obtain ⟨p, rfl, hp⟩ := hx w q
        rw [dec_enc]
        exact ov_mono (ov_scale hp e0) (Nat.le_of_lt hX1)
      · refine ⟨(decR w).num * z, by rw [Int.natAbs_mul]; exact Nat.le_of_lt hX2, ?_⟩
        have e1 : decR w = ((decR w).num : Rat) / (((decR w).den : Int) : Rat) := by rw [← Rat.divInt_eq_div, Rat.num_divInt_den]
        have hzq := intCast_ne z0
        have heq := intCast_ne e0
        rw [Rat.intCast_mul, Rat.intCast_mul]
        generalize ((decR w).num : Rat) = N at *
        generalize (((decR w).den : Int) : Rat) = E at *
        rw [e1]
        grind
theorem Small.good {xs : List D} (h : Small xs) : RowGood (.tup xs) := h.sub (by have := h.len; omega) fun _ hy => hy
theorem pap_two {a b : D} (ha : plainD a = true) (hs : okStr a = true) (hb : RowGood b) : PapOk (.tup [a, b]) := ⟨rfl, fun a' b' e => by
  cases e
  exact ⟨ha, hs, hb.1, hb.2⟩⟩
theorem pap_other {p : D} (hp : plainD p = true) (h : ∀ a b, p ≠ .tup [a, b]) : PapOk p := ⟨hp, fun a b e => absurd e (h a b)⟩
theorem str_bent {w : Str} {y : D} (h : Bend (.str w) y) : plainD y = true ∧ okStr y = true := by
  cases h with
  | odd h =>
    cases h with
    | int a j e hj => cases e
    | bl b i e => cases e
    | txt s i e => cases e
    | one i e => cases e
    | rev xs e => cases e
    | lst xs e => cases e
    | last xs e => cases e
    | more xs e => cases e
    | nil => exact ⟨rfl, rfl⟩
    | non => exact ⟨rfl, rfl⟩
    | word s hs => exact ⟨rfl, hs⟩
    | few v hv => exact ⟨rfl, rfl⟩
theorem pap_bent {w : Str} {xs : List D} (hw : PyData.strOk w = true) (h : Small xs) {d : D} (hb : Bend (.tup [.str w, .tup xs]) d) : PapOk d := by
  cases hb with
  | odd ho =>
    cases ho with
    | int a j e hj => cases e
    | bl b i e => cases e
    | txt s i e => cases e
    | one i e => cases e
    | rev ys e => cases e; exact pap_two rfl rfl (rowgood_plain rfl fun _ e => by cases e)
    | lst ys e => cases e; exact pap_other rfl fun _ _ e => by cases e
    | last ys e => cases e; exact pap_other rfl fun _ _ e => by cases e
    | more ys e => cases e; exact pap_other rfl fun _ _ e => by cases e
    | nil => exact pap_other rfl fun _ _ e => by cases e
    | non => exact pap_other rfl fun _ _ e => by cases e
    | word s hs => exact pap_other rfl fun _ _ e => by cases e
    | few v hv => exact pap_other rfl fun _ _ e => by cases e
  | at_ i hi b =>
    match i, hi with
    | 0, hi =>
      cases hi
      have := str_bent b
      exact pap_two this.1 this.2 h.good
    | 1, hi =>
      cases hi
      exact pap_two rfl hw (h.bent b)
theorem nice_told {w : Str} {xs : List D} (h : Small xs) : Nice 3 (.tup [.str w, .tup xs]) := by
  obtain ⟨z, X, z0, zb, xb, hx⟩ := h.ex
  have hl := h.len
  refine ⟨by simp, fun a ha => ?_⟩
  rcases List.mem_cons.mp ha with rfl | ha
  · trivial
  · rcases List.mem_cons.mp ha with rfl | ha
    · refine ⟨by omega, fun x hm => ?_⟩
      obtain ⟨p, rfl, hp⟩ := hx x hm
      have hs := ov_sz hp z0 xb zb
      refine ⟨by simp, fun y hy => ?_⟩
      rcases List.mem_cons.mp hy with rfl | hy
      · exact Nat.lt_of_lt_of_le hs.1 (pow_le2 (by omega))
      · rcases List.mem_cons.mp hy with rfl | hy
        · show ((p.den : Int)).natAbs < 2 ^ 1900
          rw [Int.natAbs_natCast]
          exact Nat.lt_of_lt_of_le hs.2 (pow_le2 (by omega))
        · cases hy
    · cases ha
end K82
set_option Elab.async false
set_option linter.all false
set_option maxRecDepth 100000
set_option maxHeartbeats 2000000
namespace K82
open PySem PC
theorem oldOk_app {base : Nat} : ∀ {st0 r : Store}, oldOk base st0 (st0 ++ r) = true := oldOk_pre
theorem St.get {rest st : Store} {c : Cell} (h : St (rest ++ [c]) st) : st[rest.length + 1]? = some c := by
  obtain ⟨a, b, _, _, rfl⟩ := h
  show (rest ++ [c])[rest.length]? = some c
  simp
theorem St.set {rest st : Store} {c c' : Cell} (h : St (rest ++ [c]) st) : St (rest ++ [c']) (st.set (rest.length + 1) c') := by
  obtain ⟨a, b, ha, hb, rfl⟩ := h
  refine ⟨a, b, ha, hb, ?_⟩
  show Cell.lst [.int a, .int b] :: (rest ++ [c]).set rest.length c' = _
  simp [Stt]
theorem St.new {rest st : Store} {c : Cell} (h : St rest st) : St (rest ++ [c]) (st ++ [c]) := by
  obtain ⟨a, b, ha, hb, rfl⟩ := h
  exact ⟨a, b, ha, hb, rfl⟩
theorem leave_st {rest r st0 st' : Store} {d : D} {Q : D → Store → Prop} (h0 : St rest st0) (h : St (rest ++ r) st') (hb : below st0.length d = true) (hs : sz d ≤ 1000000) (q : ∀ st1, St rest st1 → Q d st1) : Wp (leave false st0 d st') Q := by
  obtain ⟨a, b, ha, hb1, rfl⟩ := h0
  obtain ⟨a', b', ha', hb', rfl⟩ := h
  have hq := q (Stt a' b' rest) ⟨a', b', ha', hb', rfl⟩
  refine ⟨d, _, ?_, hq⟩
  unfold leave
  rw [if_neg (by decide)]
  by_cases hl : (Stt a' b' (rest ++ r)).length = (Stt a b rest).length
  · rw [if_pos hl, if_pos hb]
    have : r = [] := by
      have hl : (rest ++ r).length + 1 = rest.length + 1 := hl
      rw [List.length_append] at hl
      exact List.eq_nil_of_length_eq_zero (by omega)
    rw [this, List.append_nil]
  · rw [if_neg hl]
    have ho : oldOk (Stt a b rest).length (Stt a b rest) (Stt a' b' (rest ++ r)) = true := by
      show ((sames _ [D.int a', D.int b'] || belows _ [D.int a', D.int b']) && oldOk _ rest (rest ++ r)) = true
      rw [oldOk_pre, show belows (Stt a b rest).length [D.int a', D.int b'] = true from rfl, Bool.or_true]; rfl
    rw [if_pos ho, fz_closed hb hs]
    dsimp only
    have ht : (Stt a' b' (rest ++ r)).take (Stt a b rest).length = Stt a' b' rest := by
      show Cell.lst [.int a', .int b'] :: (rest ++ r).take rest.length = _
      rw [List.take_left]; rfl
    rw [ht]
theorem ov_size {s : Nat} (hs : s ≤ 11) : 72 * 432 ^ s < 2 ^ 120 := by
  refine Nat.lt_of_le_of_lt (Nat.mul_le_mul_left 72 (Nat.pow_le_pow_right (by decide) hs)) (by decide)
section
variable {k : Nat} {rest st : Store}
theorem made_wp (h : St rest st) {r size : Nat} (hr : r ≤ 6) (hs1 : 1 ≤ size) (hs : size ≤ 12) : Wp (callF tbl (k + 4) 36 [.ref 0, .int (r : Nat), .int (size : Nat)] st) fun d st' => St rest st' ∧ ∃ x c : Nat → Rat, d = .tup [.tup (fr size x), .tup (fr r c)] ∧ (∀ i, i < size → Ov (12 ^ (size + 1)) (72 * 432 ^ size) (x i)) ∧ ∀ i, i < r → Ov 12 72 (c i) := by
  refine call_wp (d := d__law_made) rfl rfl rfl ?_
  show Wp (evS (callF tbl (k + 3)) b__law_made [some (.ref 0), some (.int (r : Nat)), some (.int (size : Nat)), none, none] st) _
  unfold b__law_made
  have hmin : min2 (r : Int) (size : Int) = ((min r size : Nat) : Int) := by unfold min2; split <;> omega
  refine wp_seq (wp_asgW ?_)
  refine Wp.mono (Q := fun d st' => d = .ref (rest.length + 1) ∧ ∃ x : Nat → Rat, St (rest ++ [.lst (fr (min r size) x)]) st' ∧ ∀ i, i < min r size → Ov 12 72 (x i)) ?_ ?_
  · simp only [eS_seq, eS_skip, eS_ret, eS_ex, eS_asg, eS_ite, eS_raise, eE_call, eE_bi, eE_var, eE_cst, eE_glo, eE_fnv, eE_tup, eE_lst, eE_and, eE_or, eE_not, eE_ite, eE_mth, eE_chain, eE_sl, intP, slT, eA_cons, eA_nil, eT_nm, eT_tup, eT_cons, eT_nil, go_ok, go_exc, go_stuck, gv0, gvS, List.set_cons_zero, List.set_cons_succ, b_add, b_sub, b_mul, b_fdiv, b_mod, b_neg, b_abs, b_lt, b_le, b_gt, b_ge, b_eqI, b_neI, b_max, b_min, asBool_bl, mkTup1, mkTup2, b_idx, ix0, ix1, Bool.false_eq_true, reduceIte, b_isinst, b_len, b_all, b_any, b_tuple, b_list, b_append, b_pop, b_rev, b_int, b_isN, b_isNN, eT_sub, mkL_in, mkL_new, Bool.not_true, Bool.not_false, it_two, it_three, lenL, lenTu, mkLst_nil, mkTup3, isTL, isTT, go_assoc, hmin]
    refine Wp.by_ (row_wp (k := k) (n := min r size) h (by omega)) fun d1 st1 ⟨h1, x, e1, hx⟩ => ?_
    subst e1
    have hli : listV true (.tup (fr (min r size) x)) st1 = .ok (.ref (rest.length + 1)) (st1 ++ [.lst (fr (min r size) x)]) := by
      rw [list_seq (xs := fr (min r size) x) rfl, mkL_new, h1.len]
    simp only [eS_seq, eS_skip, eS_ret, eS_ex, eS_asg, eS_ite, eS_raise, eE_call, eE_bi, eE_var, eE_cst, eE_glo, eE_fnv, eE_tup, eE_lst, eE_and, eE_or, eE_not, eE_ite, eE_mth, eE_chain, eE_sl, intP, slT, eA_cons, eA_nil, eT_nm, eT_tup, eT_cons, eT_nil, go_ok, go_exc, go_stuck, gv0, gvS, List.set_cons_zero, List.set_cons_succ, b_add, b_sub, b_mul, b_fdiv, b_mod, b_neg, b_abs, b_lt, b_le, b_gt, b_ge, b_eqI, b_neI, b_max, b_min, asBool_bl, mkTup1, mkTup2, b_idx, ix0, ix1, Bool.false_eq_true, reduceIte, b_isinst, b_len, b_all, b_any, b_tuple, b_list, b_append, b_pop, b_rev, b_int, b_isN, b_isNN, eT_sub, mkL_in, mkL_new, Bool.not_true, Bool.not_false, it_two, it_three, lenL, lenTu, mkLst_nil, mkTup3, isTL, isTT, go_assoc, hli]
    exact Wp.ok ⟨rfl, x, h1.new, hx⟩
  rintro d st1 ⟨rfl, x, h1, hx⟩
  simp only [List.set_cons_zero, List.set_cons_succ]
  refine wp_seq (wp_asgW ?_)
  refine Wp.mono (Q := fun d st' => ∃ c : Nat → Rat, d = .tup (fr r c) ∧ St (rest ++ [.lst (fr (min r size) x)]) st' ∧ ∀ i, i < r → Ov 12 72 (c i)) ?_ ?_
  · simp only [eS_seq, eS_skip, eS_ret, eS_ex, eS_asg, eS_ite, eS_raise, eE_call, eE_bi, eE_var, eE_cst, eE_glo, eE_fnv, eE_tup, eE_lst, eE_and, eE_or, eE_not, eE_ite, eE_mth, eE_chain, eE_sl, intP, slT, eA_cons, eA_nil, eT_nm, eT_tup, eT_cons, eT_nil, go_ok, go_exc, go_stuck, gv0, gvS, List.set_cons_zero, List.set_cons_succ, b_add, b_sub, b_mul, b_fdiv, b_mod, b_neg, b_abs, b_lt, b_le, b_gt, b_ge, b_eqI, b_neI, b_max, b_min, asBool_bl, mkTup1, mkTup2, b_idx, ix0, ix1, Bool.false_eq_true, reduceIte, b_isinst, b_len, b_all, b_any, b_tuple, b_list, b_append, b_pop, b_rev, b_int, b_isN, b_isNN, eT_sub, mkL_in, mkL_new, Bool.not_true, Bool.not_false, it_two, it_three, lenL, lenTu, mkLst_nil, mkTup3, isTL, isTT, go_assoc]
    refine (row_wp (k := k) (n := r) h1 (by omega)).mono ?_
    rintro d2 st2 ⟨h2, c, e2, hc⟩
    exact ⟨c, e2, h2, hc⟩
  rintro d st2 ⟨c, rfl, h2, hc⟩
  simp only [List.set_cons_zero, List.set_cons_succ]
  have start : ∀ i, i < min r size → Ov (12 ^ (min r size + 1)) (72 * 432 ^ (min r size)) (x i) := fun i hi => by
    have := ov_scale (hx i hi) (e := 12 ^ (min r size)) (Int.pow_ne_zero (by decide))
    rw [show (12 : Int) * 12 ^ (min r size) = 12 ^ (min r size + 1) from by rw [Int.pow_succ, Int.mul_comm], Int.natAbs_pow] at this
    exact ov_mono this (Nat.mul_le_mul_left _ (Nat.pow_le_pow_left (by decide) _))
  refine wp_seq (wp_while (Q := Next (fun ρ' st1 => Wp (evS (callF tbl (k + 3)) (.seq (.ret (.tup (.cons (.bi .tuple (.cons (.var 3) .nil)) (.cons (.var 4) .nil)))) .skip) ρ' st1) fun f st' => ∃ r_1, f = Fl.rt r_1 ∧ Wp (leave false st r_1 st') fun d st' => St rest st' ∧ ∃ x c, d = .tup [.tup (fr size x), .tup (fr r c)] ∧ (∀ i, i < size → Ov (12 ^ (size + 1)) (72 * 432 ^ size) (x i)) ∧ ∀ i, i < r → Ov 12 72 (c i)) _)
    (fun kk ρ st' => ∃ l x, kk = size - l ∧ l ≤ size ∧ min r size ≤ l ∧ St (rest ++ [.lst (fr l x)]) st' ∧ (∀ i, i < l → Ov (12 ^ (l + 1)) (72 * 432 ^ l) (x i)) ∧ ρ = [some (.ref 0), some (.int (r : Nat)), some (.int (size : Nat)), some (.ref (rest.length + 1)), some (.tup (fr r c))]) (size - min r size) (by omega) ⟨min r size, x, rfl, by omega, Nat.le_refl _, h2, start, rfl⟩ ?_)
  rintro kk ρ st' ⟨l, x, rfl, hl, hml, hS, hov, rfl⟩
  have hlen : lenV (.ref (rest.length + 1)) st' = .ok (.int (l : Nat)) st' := by rw [len_seq (seq_ref hS.get) (fun _ e => nomatch e), fr_len]
  refine Wp.of (a := .bl (decide (l < size))) (st := st') ?_ ⟨_, rfl, ?_⟩
  · have e : decide ((l : Int) < (size : Int)) = decide (l < size) := by rw [Bool.eq_iff_iff, decide_eq_true_eq, decide_eq_true_eq]; omega
    simp only [eS_seq, eS_skip, eS_ret, eS_ex, eS_asg, eS_ite, eS_raise, eE_call, eE_bi, eE_var, eE_cst, eE_glo, eE_fnv, eE_tup, eE_lst, eE_and, eE_or, eE_not, eE_ite, eE_mth, eE_chain, eE_sl, intP, slT, eA_cons, eA_nil, eT_nm, eT_tup, eT_cons, eT_nil, go_ok, go_exc, go_stuck, gv0, gvS, List.set_cons_zero, List.set_cons_succ, b_add, b_sub, b_mul, b_fdiv, b_mod, b_neg, b_abs, b_lt, b_le, b_gt, b_ge, b_eqI, b_neI, b_max, b_min, asBool_bl, mkTup1, mkTup2, b_idx, ix0, ix1, Bool.false_eq_true, reduceIte, b_isinst, b_len, b_all, b_any, b_tuple, b_list, b_append, b_pop, b_rev, b_int, b_isN, b_isNN, eT_sub, mkL_in, mkL_new, Bool.not_true, Bool.not_false, it_two, it_three, lenL, lenTu, mkLst_nil, mkTup3, isTL, isTT, go_assoc, hlen, e]
  · by_cases hlt : l < size
    · rw [if_pos (decide_eq_true hlt)]
      refine ⟨by omega, ?_⟩
      have hrl : r ≤ l := by omega
      have hsl : evE (callF tbl (k + 3)) (.ite (.bi .gt (.cons (.var 1) (.cons (.cst (.int 0)) .nil))) (.sl false true false (.var 3) (.bi .sub (.cons (.bi .len (.cons (.var 3) .nil)) (.cons (.var 1) .nil))) .nil) (.lst false .nil)) [some (.ref 0), some (.int (r : Nat)), some (.int (size : Nat)), some (.ref (rest.length + 1)), some (.tup (fr r c))] st' = .ok (.lst (fr r (fun i => x (l - r + i)))) st' := by
        by_cases hr0 : 0 < r
        · have e : decide ((0 : Int) < (r : Int)) = true := decide_eq_true (by omega)
          have hc : cut (fr l x) (some ((l : Int) - (r : Int))) none = fr r (fun i => x (l - r + i)) := by
            rw [cut_from (i := l - r) (by omega), fr_drop (by omega), show l - (l - r) = r by omega]
          have hs := fun lo hi => sl_ref (lo := lo) (hi := hi) hS.get
          simp only [eS_seq, eS_skip, eS_ret, eS_ex, eS_asg, eS_ite, eS_raise, eE_call, eE_bi, eE_var, eE_cst, eE_glo, eE_fnv, eE_tup, eE_lst, eE_and, eE_or, eE_not, eE_ite, eE_mth, eE_chain, eE_sl, intP, slT, eA_cons, eA_nil, eT_nm, eT_tup, eT_cons, eT_nil, go_ok, go_exc, go_stuck, gv0, gvS, List.set_cons_zero, List.set_cons_succ, b_add, b_sub, b_mul, b_fdiv, b_mod, b_neg, b_abs, b_lt, b_le, b_gt, b_ge, b_eqI, b_neI, b_max, b_min, asBool_bl, mkTup1, mkTup2, b_idx, ix0, ix1, Bool.false_eq_true, reduceIte, b_isinst, b_len, b_all, b_any, b_tuple, b_list, b_append, b_pop, b_rev, b_int, b_isN, b_isNN, eT_sub, mkL_in, mkL_new, Bool.not_true, Bool.not_false, it_two, it_three, lenL, lenTu, mkLst_nil, mkTup3, isTL, isTT, go_assoc, e, eE_slTF, hlen, hs, hc]
        · have e : decide ((0 : Int) < (r : Int)) = false := decide_eq_false (by omega)
          have e0 : r = 0 := by omega
          subst e0
          have hm : mkLst false [] st' = .ok (.lst []) st' := rfl
          simp only [eS_seq, eS_skip, eS_ret, eS_ex, eS_asg, eS_ite, eS_raise, eE_call, eE_bi, eE_var, eE_cst, eE_glo, eE_fnv, eE_tup, eE_lst, eE_and, eE_or, eE_not, eE_ite, eE_mth, eE_chain, eE_sl, intP, slT, eA_cons, eA_nil, eT_nm, eT_tup, eT_cons, eT_nil, go_ok, go_exc, go_stuck, gv0, gvS, List.set_cons_zero, List.set_cons_succ, b_add, b_sub, b_mul, b_fdiv, b_mod, b_neg, b_abs, b_lt, b_le, b_gt, b_ge, b_eqI, b_neI, b_max, b_min, asBool_bl, mkTup1, mkTup2, b_idx, ix0, ix1, Bool.false_eq_true, reduceIte, b_isinst, b_len, b_all, b_any, b_tuple, b_list, b_append, b_pop, b_rev, b_int, b_isN, b_isNN, eT_sub, mkL_in, mkL_new, Bool.not_true, Bool.not_false, it_two, it_three, lenL, lenTu, mkLst_nil, mkTup3, isTL, isTT, go_assoc, e, hm]
          rfl
      have hDot : DotOk ((List.range r).map c) ((List.range r).map fun i => x (l - r + i)) := by
        refine ⟨⟨12, 12 ^ (l + 1), 72, 72 * 432 ^ l, by decide, Int.pow_ne_zero (by decide), ?_, ?_, ?_, ov_size (by omega), fun p hp => ?_, fun p hp => ?_⟩, by rw [List.length_map, List.length_range]; omega⟩
        · exact Nat.lt_of_lt_of_le (by decide : (12 : Int).natAbs < 2 ^ 4) (pow_le2 (by omega))
        · rw [Int.natAbs_pow]
          exact Nat.lt_of_le_of_lt (Nat.pow_le_pow_right (by decide) (by omega : l + 1 ≤ 12)) (by decide)
        · exact Nat.lt_of_lt_of_le (by decide : 72 < 2 ^ 7) (pow_le2 (by omega))
        · obtain ⟨i, hi, rfl⟩ := List.mem_map.mp hp
          exact hc i (List.mem_range.mp hi)
        · obtain ⟨i, hi, rfl⟩ := List.mem_map.mp hp
          exact hov _ (by have := List.mem_range.mp hi; omega)
      have hdot := ldot_ov (k := k) (st := st') hDot (by simp) (d := .lst (fr r (fun i => x (l - r + i)))) (by rw [fr_map]; rfl)
      rw [← fr_map] at hdot
      have hov2 : Ov (12 ^ (l + 2)) (72 * 432 ^ (l + 1)) (rsum (rdots ((List.range r).map c) ((List.range r).map fun i => x (l - r + i)))) := by
        have h1 := rsum_ov (rdots_ov (zp := 12) (zq := 12 ^ (l + 1)) (X := 72) (Y := 72 * 432 ^ l) (ps := (List.range r).map c) (qs := (List.range r).map fun i => x (l - r + i)) (fun p hp => by
          obtain ⟨i, hi, rfl⟩ := List.mem_map.mp hp
          exact hc i (List.mem_range.mp hi)) (fun p hp => by
          obtain ⟨i, hi, rfl⟩ := List.mem_map.mp hp
          exact hov _ (by have := List.mem_range.mp hi; omega)) (by decide) (Int.pow_ne_zero (by decide))) 6
        rw [List.take_of_length_le (by rw [rdots_len, List.length_map, List.length_range]; omega)] at h1
        rw [show (12 : Int) ^ (l + 2) = 12 * 12 ^ (l + 1) from by rw [Int.pow_succ 12 (l + 1), Int.mul_comm]]
        exact ov_mono h1 (by rw [Nat.pow_succ]; omega)
      have hap := append_ref (x := encR (rsum (rdots ((List.range r).map c) ((List.range r).map fun i => x (l - r + i))))) hS.get (by rw [fr_len]; omega)
      have hil := isLst_ref hS.get
      refine wp_seq (wp_ex (d := .non) (st' := st'.set (rest.length + 1) (.lst (fr l x ++ [encR (rsum (rdots ((List.range r).map c) ((List.range r).map fun i => x (l - r + i))))]))) ?_ (wp_skip ?_))
      · simp only [eE_mth, eE_var, gv0, gvS, go_ok, hil, eA_cons, eA_nil, eE_call, go_assoc, hsl, hdot, b_append, hap]
      · refine ⟨l + 1, fun j => if j = l then rsum (rdots ((List.range r).map c) ((List.range r).map fun i => x (l - r + i))) else x j, by omega, by omega, by omega, ?_, fun i hi => ?_, rfl⟩
        · rw [fr_snoc]
          exact hS.set
        · dsimp only
          by_cases e : i = l
          · rw [if_pos e]; exact hov2
          · rw [if_neg e]
            have := ov_scale (hov i (by omega)) (e := 12) (by decide)
            rw [← Int.pow_succ] at this
            refine ov_mono this ?_
            show 72 * 432 ^ l * 12 ≤ _
            rw [Nat.pow_succ]; omega
    · rw [if_neg (by simpa using hlt)]
      have e : l = size := by omega
      subst e
      have htu := tuple_seq (seq_ref hS.get)
      refine wp_seq (wp_ret (d := .tup [.tup (fr l x), .tup (fr r c)]) (st' := st') (by simp only [eS_seq, eS_skip, eS_ret, eS_ex, eS_asg, eS_ite, eS_raise, eE_call, eE_bi, eE_var, eE_cst, eE_glo, eE_fnv, eE_tup, eE_lst, eE_and, eE_or, eE_not, eE_ite, eE_mth, eE_chain, eE_sl, intP, slT, eA_cons, eA_nil, eT_nm, eT_tup, eT_cons, eT_nil, go_ok, go_exc, go_stuck, gv0, gvS, List.set_cons_zero, List.set_cons_succ, b_add, b_sub, b_mul, b_fdiv, b_mod, b_neg, b_abs, b_lt, b_le, b_gt, b_ge, b_eqI, b_neI, b_max, b_min, asBool_bl, mkTup1, mkTup2, b_idx, ix0, ix1, Bool.false_eq_true, reduceIte, b_isinst, b_len, b_all, b_any, b_tuple, b_list, b_append, b_pop, b_rev, b_int, b_isN, b_isNN, eT_sub, mkL_in, mkL_new, Bool.not_true, Bool.not_false, it_two, it_three, lenL, lenTu, mkLst_nil, mkTup3, isTL, isTT, go_assoc, htu] <;> rfl) ⟨_, rfl, ?_⟩)
      refine leave_st h hS ?_ ?_ fun st1 h1 => ⟨h1, x, c, rfl, hov, hc⟩
      · show (belows _ (fr l x) && (belows _ (fr r c) && true)) = true
        rw [fr_below, fr_below]; rfl
      · have e1 : szs (fr l x) ≤ l * 6 := fr_sz
        have e2 : szs (fr r c) ≤ r * 6 := fr_sz
        simp only [sz, szs]
        omega
end
end K82
set_option Elab.async false
set_option linter.all false
set_option maxRecDepth 100000
set_option maxHeartbeats 2000000
namespace K82
open PySem PC
theorem fr_dec {m : Nat} {y : Nat → Rat} : (fr m y).map decR = (List.range m).map y := by
  unfold fr
  rw [List.map_map]
  exact List.map_congr_left fun c _ => dec_enc _
theorem fr_isRow {m : Nat} {y : Nat → Rat} : isRow m (.tup (fr m y)) = true := by
  show (decide ((fr m y).length = m) && (fr m y).all isRatioD) = true
  rw [fr_len, decide_eq_true rfl, Bool.true_and, List.all_eq_true]
  intro x hx
  obtain ⟨c, _, rfl⟩ := List.mem_map.mp hx
  exact isRatio_enc _
theorem rsum_two {m : Nat} {y z : Nat → Rat} : rsum (rdots ((List.range m).map y) ((List.range m).map z)) = sumR m (fun c => y c * z c) := by
  have : rdots ((List.range m).map y) ((List.range m).map z) = (List.range m).map (fun c => y c * z c) := by
    unfold rdots
    rw [List.zip_map, List.map_map]
    have hz : ∀ l : List Nat, (l.zip l).map ((fun x : Rat × Rat => x.1 * x.2) ∘ Prod.map y z) = l.map (fun c => y c * z c) := fun l => by
      induction l with
      | nil => rfl
      | cons a l ih => rw [List.zip_cons_cons, List.map_cons, ih]; rfl
    exact hz _
  rw [this, rsum_range]
section
variable {n B r : Nat} {R : Int} {q : Nat → Rat}
theorem holds_str {w : Str} {p : D} : holdsD n r q (.tup [.str w, p]) = (if w == "recursion" then isRow r p && recH n r q (rowOf p) else if w == "against" then isRow (n - r) p && agH n r q (rowOf p) else false) := rfl
theorem told_holds {d : D} (h : Told n r B q d) : holdsD n r q d = true := by
  rcases h with ⟨y, rfl, _, hy⟩ | ⟨l, rfl, _, h0, h1⟩
  · rw [holds_str, if_pos (by decide +kernel), fr_isRow, Bool.true_and]
    show recH n r q ((fr r y).map decR) = true
    rw [fr_dec]
    unfold recH
    rw [List.all_eq_true]
    intro i hi
    unfold slc
    rw [rsum_two, decide_eq_true_eq]
    exact hy i (List.mem_range.mp hi)
  · rw [holds_str, if_neg (by decide +kernel), if_pos (by decide +kernel), fr_isRow, Bool.true_and]
    show agH n r q ((fr (n - r) l).map decR) = true
    rw [fr_dec]
    unfold agH
    rw [Bool.and_eq_true]
    constructor
    · rw [Bool.not_eq_true', List.any_eq_false]
      intro j hj
      unfold slc
      rw [rsum_two, h0 j (List.mem_range.mp hj)]
      simp
    · unfold slc
      rw [rsum_two]
      simpa using h1
theorem told_solv {d : D} (h : Told n r B q d) : (∃ w b, d = .tup [.str w, b] ∧ ((w = "recursion" ∧ Solv n r q) ∨ (w = "against" ∧ ¬ Solv n r q))) := by
  rcases h with ⟨y, rfl, _, hy⟩ | ⟨l, rfl, _, h0, h1⟩
  · refine ⟨_, _, rfl, .inl ⟨rfl, fun c => if c = r then -1 else y c, if_pos rfl, fun i hi => ?_⟩⟩
    unfold ev
    rw [sumR_succ]
    dsimp only
    rw [if_pos rfl, sumR_ext r (g := fun c => y c * q (i + c)) (fun c hc => by rw [if_neg (by omega)]; grind), hy i hi]
    grind
  · refine ⟨_, _, rfl, .inr ⟨rfl, ?_⟩⟩
    rintro ⟨y, hy, hev⟩
    apply h1
    have e1 : sumR (n - r) (fun k => l k * ev r (fun c => q (k + c)) y) = 0 := sumR_zero _ fun k hk => by rw [hev k hk]; grind
    have e2 : sumR (n - r) (fun k => l k * ev r (fun c => q (k + c)) y) = sumR (r + 1) (fun c => y c * sumR (n - r) (fun k => l k * q (c + k))) := by
      show sumR (n - r) (fun k => l k * sumR (r + 1) (fun c => q (k + c) * y c)) = _
      rw [sumR_ext (n - r) (g := fun k => sumR (r + 1) (fun c => l k * (q (k + c) * y c))) (fun k _ => (sumR_mul _ _ _).symm), sumR_comm]
      refine sumR_ext _ fun c _ => ?_
      rw [← sumR_mul]
      exact sumR_ext _ fun k _ => by rw [Nat.add_comm c k]; grind
    rw [sumR_succ, sumR_zero r (fun c hc => by rw [h0 c hc]; grind), hy, e1] at e2
    grind
/-- told: a word and a small row -/
theorem told_small {d : D} (h : Told n r B q d) (hn : n ≤ 40) (hr : r ≤ 20) (hB : 1 ≤ B) (hβ : (r + 1) * ((2 * (r + 1) * B) ^ r * B) < 2 ^ 890) : ∃ w m z, d = .tup [.str w, .tup (fr m z)] ∧ PyData.strOk w = true ∧ m ≤ 40 ∧ ∃ (e : Int) (X : Nat), e ≠ 0 ∧ e.natAbs < 2 ^ 890 ∧ X < 2 ^ 890 ∧ ∀ c, c < m → Ov e X (z c) := by
  have hM : (2 * (r + 1) * B) ^ r < 2 ^ 890 := by
    refine Nat.lt_of_le_of_lt ?_ hβ
    calc (2 * (r + 1) * B) ^ r = 1 * ((2 * (r + 1) * B) ^ r * 1) := by rw [Nat.one_mul, Nat.mul_one]
      _ ≤ (r + 1) * ((2 * (r + 1) * B) ^ r * B) := Nat.mul_le_mul (by omega) (Nat.mul_le_mul_left _ hB)
  rcases h with ⟨y, rfl, ⟨e, e0, eb, hy⟩, _⟩ | ⟨l, rfl, ⟨e, e0, eb, hy⟩, _, _⟩
  · exact ⟨_, r, y, rfl, by decide +kernel, by omega, e, _, e0, Nat.lt_of_le_of_lt eb hM, hM, fun c hc => hy c hc⟩
  · exact ⟨_, n - r, l, rfl, by decide +kernel, by omega, e, _, e0, Nat.lt_of_le_of_lt eb hβ, hβ, fun c hc => hy c hc⟩
end
theorem small_fr {m : Nat} {z : Nat → Rat} {e : Int} {X b : Nat} (hm : m ≤ 41) (h0 : e ≠ 0) (he : e.natAbs < 2 ^ b) (hX : X < 2 ^ b) (hb : b ≤ 900) (h : ∀ c, c < m → Ov e X (z c)) : Small (fr m z) := ⟨by rw [fr_len]; exact hm, e, X, h0, Nat.lt_of_lt_of_le he (pow_le2 hb), Nat.lt_of_lt_of_le hX (pow_le2 hb), fun x hx => by
  obtain ⟨c, hc, rfl⟩ := List.mem_map.mp hx
  exact ⟨z c, rfl, h c (List.mem_range.mp hc)⟩⟩
theorem callv_fn {cf : Nat → List D → M D} {ρ : Rho} {st : Store} {f es : E} {i : Nat} {ds : List D} (hf : evE cf f ρ st = .ok (.fn i) st) (ha : evA cf es ρ st = .ok ds st) : evE cf (.callv f es) ρ st = cf i ds st := by
  show (M.bind (evE cf f ρ) fun g => match g with
    | .fn i => M.bind (noExc (evE cf es ρ)) fun r => M.bind (tupOf r) fun xs => cf i xs
    | _ => stuck) st = _
  unfold M.bind
  rw [hf]
  dsimp only
  unfold evA at ha
  cases he : evE cf es ρ st with
  | ok r st1 =>
    rw [he, go_ok] at ha
    have : noExc (evE cf es ρ) st = .ok r st1 := by unfold noExc; rw [he]
    rw [this]
    dsimp only
    rw [ha]
  | exc e st1 => rw [he] at ha; cases ha
  | stuck => rw [he] at ha; cases ha
theorem eS_try {cf : Nat → List D → M D} {ρ : Rho} {st : Store} {b : S} {c : Nat} {r : D} : evS cf (.try_ b c r) ρ st = (match evS cf b ρ st with
    | .ok f st' => Res.ok f st'
    | .stuck => .stuck
    | .exc e st' => if e.cls = c then .ok (.rt r) st' else .stuck) := (rfl)
section
variable {k : Nat} {st : Store}
theorem says_call {a b : Bool} : callF tbl (k + 1) 18 [.bl a, .bl b] st = .ok (.bl (a == b)) st := by
  refine call_ret (d := d__law_says) rfl rfl rfl ?_ rfl
  cases a <;> cases b <;> rfl
def raisedD : D := .tup [.str "raised", .str "malformed"]
theorem told_two {f : Nat} {a b d : D} (h : callF tbl k f [a, b] st = .ok d st) (hb : below st.length d = true) : callF tbl (k + 1) 20 [.fn f, .tup [a, b]] st = .ok (.tup [.str "told", d]) st := by
  refine call_ret (d := d__law_told) rfl rfl rfl ?_ (by show (true && (below _ d && true)) = true; rw [hb]; rfl)
  show evS (callF tbl k) b__law_told [some (.fn f), some (.tup [a, b]), none] st = _
  unfold b__law_told
  have e1 : ((([a, b] : List D).length : Int) == 1) = false := rfl
  have e2 : ((([a, b] : List D).length : Int) == 2) = true := rfl
  have hc := callv_fn (cf := callF tbl k) (ρ := [some (.fn f), some (.tup [a, b]), none]) (st := st) (f := .var 0) (es := .cons (.bi .idx (.cons (.var 1) (.cons (.cst (.int 0)) .nil))) (.cons (.bi .idx (.cons (.var 1) (.cons (.cst (.int 1)) .nil))) .nil)) (i := f) (ds := [a, b]) rfl (by simp only [eS_seq, eS_skip, eS_ret, eS_ex, eS_asg, eS_ite, eS_raise, eE_call, eE_bi, eE_var, eE_cst, eE_glo, eE_fnv, eE_tup, eE_lst, eE_and, eE_or, eE_not, eE_ite, eE_mth, eE_chain, eE_sl, intP, slT, eA_cons, eA_nil, eT_nm, eT_tup, eT_cons, eT_nil, go_ok, go_exc, go_stuck, gv0, gvS, List.set_cons_zero, List.set_cons_succ, b_add, b_sub, b_mul, b_fdiv, b_mod, b_neg, b_abs, b_lt, b_le, b_gt, b_ge, b_eqI, b_neI, b_max, b_min, asBool_bl, mkTup1, mkTup2, b_idx, ix0, ix1, Bool.false_eq_true, reduceIte, b_isinst, b_len, b_all, b_any, b_tuple, b_list, b_append, b_pop, b_rev, b_int, b_isN, b_isNN, eT_sub, mkL_in, mkL_new, Bool.not_true, Bool.not_false, it_two, it_three, lenL, lenTu, mkLst_nil, mkTup3, isTL, isTT, go_assoc])
  rw [h] at hc
  have e3 : mkTup [.str "told", d] st = .ok (.tup [.str "told", d]) st := rfl
  simp only [eS_seq, eS_skip, eS_ret, eS_ex, eS_asg, eS_ite, eS_raise, eE_call, eE_bi, eE_var, eE_cst, eE_glo, eE_fnv, eE_tup, eE_lst, eE_and, eE_or, eE_not, eE_ite, eE_mth, eE_chain, eE_sl, intP, slT, eA_cons, eA_nil, eT_nm, eT_tup, eT_cons, eT_nil, go_ok, go_exc, go_stuck, gv0, gvS, List.set_cons_zero, List.set_cons_succ, b_add, b_sub, b_mul, b_fdiv, b_mod, b_neg, b_abs, b_lt, b_le, b_gt, b_ge, b_eqI, b_neI, b_max, b_min, asBool_bl, mkTup1, mkTup2, b_idx, ix0, ix1, Bool.false_eq_true, reduceIte, b_isinst, b_len, b_all, b_any, b_tuple, b_list, b_append, b_pop, b_rev, b_int, b_isN, b_isNN, eT_sub, mkL_in, mkL_new, Bool.not_true, Bool.not_false, it_two, it_three, lenL, lenTu, mkLst_nil, mkTup3, isTL, isTT, go_assoc, eS_try, e1, e2, hc, e3]
theorem raised_two {f : Nat} {a b w : D} (h : callF tbl k f [a, b] st = .exc ⟨0, w⟩ st) : callF tbl (k + 1) 20 [.fn f, .tup [a, b]] st = .ok raisedD st := by
  refine call_ret (d := d__law_told) rfl rfl rfl ?_ rfl
  show evS (callF tbl k) b__law_told [some (.fn f), some (.tup [a, b]), none] st = _
  unfold b__law_told
  have e1 : ((([a, b] : List D).length : Int) == 1) = false := rfl
  have e2 : ((([a, b] : List D).length : Int) == 2) = true := rfl
  have hc := callv_fn (cf := callF tbl k) (ρ := [some (.fn f), some (.tup [a, b]), none]) (st := st) (f := .var 0) (es := .cons (.bi .idx (.cons (.var 1) (.cons (.cst (.int 0)) .nil))) (.cons (.bi .idx (.cons (.var 1) (.cons (.cst (.int 1)) .nil))) .nil)) (i := f) (ds := [a, b]) rfl (by simp only [eS_seq, eS_skip, eS_ret, eS_ex, eS_asg, eS_ite, eS_raise, eE_call, eE_bi, eE_var, eE_cst, eE_glo, eE_fnv, eE_tup, eE_lst, eE_and, eE_or, eE_not, eE_ite, eE_mth, eE_chain, eE_sl, intP, slT, eA_cons, eA_nil, eT_nm, eT_tup, eT_cons, eT_nil, go_ok, go_exc, go_stuck, gv0, gvS, List.set_cons_zero, List.set_cons_succ, b_add, b_sub, b_mul, b_fdiv, b_mod, b_neg, b_abs, b_lt, b_le, b_gt, b_ge, b_eqI, b_neI, b_max, b_min, asBool_bl, mkTup1, mkTup2, b_idx, ix0, ix1, Bool.false_eq_true, reduceIte, b_isinst, b_len, b_all, b_any, b_tuple, b_list, b_append, b_pop, b_rev, b_int, b_isN, b_isNN, eT_sub, mkL_in, mkL_new, Bool.not_true, Bool.not_false, it_two, it_three, lenL, lenTu, mkLst_nil, mkTup3, isTL, isTT, go_assoc])
  rw [h] at hc
  simp only [eS_seq, eS_skip, eS_ret, eS_ex, eS_asg, eS_ite, eS_raise, eE_call, eE_bi, eE_var, eE_cst, eE_glo, eE_fnv, eE_tup, eE_lst, eE_and, eE_or, eE_not, eE_ite, eE_mth, eE_chain, eE_sl, intP, slT, eA_cons, eA_nil, eT_nm, eT_tup, eT_cons, eT_nil, go_ok, go_exc, go_stuck, gv0, gvS, List.set_cons_zero, List.set_cons_succ, b_add, b_sub, b_mul, b_fdiv, b_mod, b_neg, b_abs, b_lt, b_le, b_gt, b_ge, b_eqI, b_neI, b_max, b_min, asBool_bl, mkTup1, mkTup2, b_idx, ix0, ix1, Bool.false_eq_true, reduceIte, b_isinst, b_len, b_all, b_any, b_tuple, b_list, b_append, b_pop, b_rev, b_int, b_isN, b_isNN, eT_sub, mkL_in, mkL_new, Bool.not_true, Bool.not_false, it_two, it_three, lenL, lenTu, mkLst_nil, mkTup3, isTL, isTT, go_assoc, eS_try, e1, e2, hc]
  rfl
theorem raised_three {f : Nat} {a b c w : D} (h : callF tbl k f [a, b, c] st = .exc ⟨0, w⟩ st) : callF tbl (k + 1) 20 [.fn f, .tup [a, b, c]] st = .ok raisedD st := by
  refine call_ret (d := d__law_told) rfl rfl rfl ?_ rfl
  show evS (callF tbl k) b__law_told [some (.fn f), some (.tup [a, b, c]), none] st = _
  unfold b__law_told
  have e1 : ((([a, b, c] : List D).length : Int) == 1) = false := rfl
  have e2 : ((([a, b, c] : List D).length : Int) == 2) = false := rfl
  have e3 : ((([a, b, c] : List D).length : Int) == 3) = true := rfl
  have i2 : ∀ st, idxV (.tup [a, b, c]) (.int 2) st = .ok c st := fun st => ix_at (n := 2) rfl
  have hc := callv_fn (cf := callF tbl k) (ρ := [some (.fn f), some (.tup [a, b, c]), none]) (st := st) (f := .var 0) (es := .cons (.bi .idx (.cons (.var 1) (.cons (.cst (.int 0)) .nil))) (.cons (.bi .idx (.cons (.var 1) (.cons (.cst (.int 1)) .nil))) (.cons (.bi .idx (.cons (.var 1) (.cons (.cst (.int 2)) .nil))) .nil))) (i := f) (ds := [a, b, c]) rfl (by simp only [eS_seq, eS_skip, eS_ret, eS_ex, eS_asg, eS_ite, eS_raise, eE_call, eE_bi, eE_var, eE_cst, eE_glo, eE_fnv, eE_tup, eE_lst, eE_and, eE_or, eE_not, eE_ite, eE_mth, eE_chain, eE_sl, intP, slT, eA_cons, eA_nil, eT_nm, eT_tup, eT_cons, eT_nil, go_ok, go_exc, go_stuck, gv0, gvS, List.set_cons_zero, List.set_cons_succ, b_add, b_sub, b_mul, b_fdiv, b_mod, b_neg, b_abs, b_lt, b_le, b_gt, b_ge, b_eqI, b_neI, b_max, b_min, asBool_bl, mkTup1, mkTup2, b_idx, ix0, ix1, Bool.false_eq_true, reduceIte, b_isinst, b_len, b_all, b_any, b_tuple, b_list, b_append, b_pop, b_rev, b_int, b_isN, b_isNN, eT_sub, mkL_in, mkL_new, Bool.not_true, Bool.not_false, it_two, it_three, lenL, lenTu, mkLst_nil, mkTup3, isTL, isTT, go_assoc, i2])
  rw [h] at hc
  simp only [eS_seq, eS_skip, eS_ret, eS_ex, eS_asg, eS_ite, eS_raise, eE_call, eE_bi, eE_var, eE_cst, eE_glo, eE_fnv, eE_tup, eE_lst, eE_and, eE_or, eE_not, eE_ite, eE_mth, eE_chain, eE_sl, intP, slT, eA_cons, eA_nil, eT_nm, eT_tup, eT_cons, eT_nil, go_ok, go_exc, go_stuck, gv0, gvS, List.set_cons_zero, List.set_cons_succ, b_add, b_sub, b_mul, b_fdiv, b_mod, b_neg, b_abs, b_lt, b_le, b_gt, b_ge, b_eqI, b_neI, b_max, b_min, asBool_bl, mkTup1, mkTup2, b_idx, ix0, ix1, Bool.false_eq_true, reduceIte, b_isinst, b_len, b_all, b_any, b_tuple, b_list, b_append, b_pop, b_rev, b_int, b_isN, b_isNN, eT_sub, mkL_in, mkL_new, Bool.not_true, Bool.not_false, it_two, it_three, lenL, lenTu, mkLst_nil, mkTup3, isTL, isTT, go_assoc, eS_try, e1, e2, e3, hc]
  rfl
theorem israised_call : callF tbl (k + 2) 21 [raisedD, .str "malformed"] st = .ok (.bl true) st := by
  refine call_ret (d := d__law_is_raised) rfl rfl rfl ?_ rfl
  show evS (callF tbl (k + 1)) b__law_is_raised [some raisedD, some (.str "malformed")] st = _
  have hsame : callF tbl (k + 1) 19 [.str "malformed", .str "malformed"] st = .ok (.bl true) st := by
    refine call_ret (d := d__law_same) rfl rfl rfl ?_ rfl
    show evS (callF tbl k) b__law_same [some (.str "malformed"), some (.str "malformed"), none] st = _
    have e : biV .eq [.str "malformed", .str "malformed"] st = .ok (.bl true) st := by
      rw [eq_str (by decide +kernel) (by decide +kernel)]
      rw [show (("malformed" : Str) == "malformed") = true from by decide +kernel]
    have i1 : isinstV [.tuple] (.str "malformed") st = .ok (.bl false) st := rfl
    have i2 : isinstV [.bool] (.str "malformed") st = .ok (.bl false) st := rfl
    have i3 : decide (D.str "malformed" = D.non) = false := rfl
    simp only [b__law_same, eS_seq, eS_skip, eS_ret, eS_ex, eS_asg, eS_ite, eS_raise, eE_call, eE_bi, eE_var, eE_cst, eE_glo, eE_fnv, eE_tup, eE_lst, eE_and, eE_or, eE_not, eE_ite, eE_mth, eE_chain, eE_sl, intP, slT, eA_cons, eA_nil, eT_nm, eT_tup, eT_cons, eT_nil, go_ok, go_exc, go_stuck, gv0, gvS, List.set_cons_zero, List.set_cons_succ, b_add, b_sub, b_mul, b_fdiv, b_mod, b_neg, b_abs, b_lt, b_le, b_gt, b_ge, b_eqI, b_neI, b_max, b_min, asBool_bl, mkTup1, mkTup2, b_idx, ix0, ix1, Bool.false_eq_true, reduceIte, b_isinst, b_len, b_all, b_any, b_tuple, b_list, b_append, b_pop, b_rev, b_int, b_isN, b_isNN, eT_sub, mkL_in, mkL_new, Bool.not_true, Bool.not_false, it_two, it_three, lenL, lenTu, mkLst_nil, mkTup3, isTL, isTT, go_assoc, i1, i2, i3, isS, e, Bool.false_xor]
  have e1 : biV .eq [.str "raised", .str "raised"] st = .ok (.bl true) st := by
    rw [eq_str (by decide +kernel) (by decide +kernel)]
    rw [show (("raised" : Str) == "raised") = true from by decide +kernel]
  simp only [b__law_is_raised, eS_seq, eS_skip, eS_ret, eS_ex, eS_asg, eS_ite, eS_raise, eE_call, eE_bi, eE_var, eE_cst, eE_glo, eE_fnv, eE_tup, eE_lst, eE_and, eE_or, eE_not, eE_ite, eE_mth, eE_chain, eE_sl, intP, slT, eA_cons, eA_nil, eT_nm, eT_tup, eT_cons, eT_nil, go_ok, go_exc, go_stuck, gv0, gvS, List.set_cons_zero, List.set_cons_succ, b_add, b_sub, b_mul, b_fdiv, b_mod, b_neg, b_abs, b_lt, b_le, b_gt, b_ge, b_eqI, b_neI, b_max, b_min, asBool_bl, mkTup1, mkTup2, b_idx, ix0, ix1, Bool.false_eq_true, reduceIte, b_isinst, b_len, b_all, b_any, b_tuple, b_list, b_append, b_pop, b_rev, b_int, b_isN, b_isNN, eT_sub, mkL_in, mkL_new, Bool.not_true, Bool.not_false, it_two, it_three, lenL, lenTu, mkLst_nil, mkTup3, isTL, isTT, go_assoc, raisedD, e1, hsame]
/-- the check raises -/
def Bad (v o : D) : Prop := ∀ (k : Nat) (st : Store), ∃ w, callF tbl (k + 3) 11 [v, o] st = .exc ⟨0, .str w⟩ st
theorem bad_row {xs : List D} {o : D} (h : ∀ x ∈ xs, RatAsk x) (hl : xs.length ≤ 100) (hb : (1 ≤ xs.length ∧ xs.length ≤ 40 → xs.all isRatioD = false)) : Bad (.tup xs) o := fun k st => by
  refine ⟨"no row", call_exc (d := d_check_recursion) rfl rfl ?_⟩
  show evS (callF tbl (k + 2)) b_check_recursion [some (.tup xs), some o, none] st = _
  have hc : evE (callF tbl (k + 2)) (.comp false (.call 3 (.cons (.var 2) .nil)) [2] true (.sq (.var 0)) (.cst (.bl true))) [some (.tup xs), some o, none] st = .ok (.lst (xs.map fun x => D.bl (isRatioD x))) st := by
    rw [← filterMap_some]
    refine comp_run (xs := xs) rfl (fun x hx => cBody_one ?_) (by rw [filterMap_some, List.length_map]; omega)
    simp only [eS_seq, eS_skip, eS_ret, eS_ex, eS_asg, eS_ite, eS_raise, eE_call, eE_bi, eE_var, eE_cst, eE_glo, eE_fnv, eE_tup, eE_lst, eE_and, eE_or, eE_not, eE_ite, eE_mth, eE_chain, eE_sl, intP, slT, eA_cons, eA_nil, eT_nm, eT_tup, eT_cons, eT_nil, go_ok, go_exc, go_stuck, gv0, gvS, List.set_cons_zero, List.set_cons_succ, b_add, b_sub, b_mul, b_fdiv, b_mod, b_neg, b_abs, b_lt, b_le, b_gt, b_ge, b_eqI, b_neI, b_max, b_min, asBool_bl, mkTup1, mkTup2, b_idx, ix0, ix1, Bool.false_eq_true, reduceIte, is_ratio_call (k := k) (h x hx)]
  cases e1 : decide ((1 : Int) ≤ (xs.length : Int)) with
  | false => simp only [b_check_recursion, eS_seq, eS_skip, eS_ret, eS_ex, eS_asg, eS_ite, eS_raise, eE_call, eE_bi, eE_var, eE_cst, eE_glo, eE_fnv, eE_tup, eE_lst, eE_and, eE_or, eE_not, eE_ite, eE_mth, eE_chain, eE_sl, intP, slT, eA_cons, eA_nil, eT_nm, eT_tup, eT_cons, eT_nil, go_ok, go_exc, go_stuck, gv0, gvS, List.set_cons_zero, List.set_cons_succ, b_add, b_sub, b_mul, b_fdiv, b_mod, b_neg, b_abs, b_lt, b_le, b_gt, b_ge, b_eqI, b_neI, b_max, b_min, asBool_bl, mkTup1, mkTup2, b_idx, ix0, ix1, Bool.false_eq_true, reduceIte, b_isinst, b_len, b_all, b_any, b_tuple, b_list, b_append, b_pop, b_rev, b_int, b_isN, b_isNN, eT_sub, mkL_in, mkL_new, Bool.not_true, Bool.not_false, it_two, it_three, lenL, lenTu, mkLst_nil, mkTup3, isTL, isTT, go_assoc, isT, e1]
  | true =>
    cases e2 : decide ((xs.length : Int) ≤ 40) with
    | false => simp only [b_check_recursion, eS_seq, eS_skip, eS_ret, eS_ex, eS_asg, eS_ite, eS_raise, eE_call, eE_bi, eE_var, eE_cst, eE_glo, eE_fnv, eE_tup, eE_lst, eE_and, eE_or, eE_not, eE_ite, eE_mth, eE_chain, eE_sl, intP, slT, eA_cons, eA_nil, eT_nm, eT_tup, eT_cons, eT_nil, go_ok, go_exc, go_stuck, gv0, gvS, List.set_cons_zero, List.set_cons_succ, b_add, b_sub, b_mul, b_fdiv, b_mod, b_neg, b_abs, b_lt, b_le, b_gt, b_ge, b_eqI, b_neI, b_max, b_min, asBool_bl, mkTup1, mkTup2, b_idx, ix0, ix1, Bool.false_eq_true, reduceIte, b_isinst, b_len, b_all, b_any, b_tuple, b_list, b_append, b_pop, b_rev, b_int, b_isN, b_isNN, eT_sub, mkL_in, mkL_new, Bool.not_true, Bool.not_false, it_two, it_three, lenL, lenTu, mkLst_nil, mkTup3, isTL, isTT, go_assoc, isT, e1, e2, c_MOST_ROW]
    | true =>
      have e3 : xs.all isRatioD = false := hb ⟨by have := of_decide_eq_true e1; omega, by have := of_decide_eq_true e2; omega⟩
      simp only [b_check_recursion, eS_seq, eS_skip, eS_ret, eS_ex, eS_asg, eS_ite, eS_raise, eE_call, eE_bi, eE_var, eE_cst, eE_glo, eE_fnv, eE_tup, eE_lst, eE_and, eE_or, eE_not, eE_ite, eE_mth, eE_chain, eE_sl, intP, slT, eA_cons, eA_nil, eT_nm, eT_tup, eT_cons, eT_nil, go_ok, go_exc, go_stuck, gv0, gvS, List.set_cons_zero, List.set_cons_succ, b_add, b_sub, b_mul, b_fdiv, b_mod, b_neg, b_abs, b_lt, b_le, b_gt, b_ge, b_eqI, b_neI, b_max, b_min, asBool_bl, mkTup1, mkTup2, b_idx, ix0, ix1, Bool.false_eq_true, reduceIte, b_isinst, b_len, b_all, b_any, b_tuple, b_list, b_append, b_pop, b_rev, b_int, b_isN, b_isNN, eT_sub, mkL_in, mkL_new, Bool.not_true, Bool.not_false, it_two, it_three, lenL, lenTu, mkLst_nil, mkTup3, isTL, isTT, go_assoc, isT, e1, e2, c_MOST_ROW, hc, allV_map, e3]
theorem bad_order {n B : Nat} {R : Int} {q : Nat → Rat} {o : D} (h : Row n B R q) (hp : plainD o = true) (ho : ∀ i, o = .int i → i < 0 ∨ 20 < i) : Bad (.tup (fr n q)) o := fun k st => by
  have h1 := h.n1
  have h2 := h.n40
  refine ⟨"no order", call_exc (d := d_check_recursion) rfl rfl ?_⟩
  show evS (callF tbl (k + 2)) b_check_recursion [some (.tup (fr n q)), some o, none] st = _
  have hc : evE (callF tbl (k + 2)) (.comp false (.call 3 (.cons (.var 2) .nil)) [2] true (.sq (.var 0)) (.cst (.bl true))) [some (.tup (fr n q)), some o, none] st = .ok (.lst ((fr n q).map fun x => D.bl (isRatioD x))) st := by
    rw [← filterMap_some]
    refine comp_run (xs := fr n q) rfl (fun x hx => cBody_one ?_) (by rw [filterMap_some, List.length_map, fr_len]; omega)
    obtain ⟨c, hc, rfl⟩ := List.mem_map.mp hx
    simp only [eS_seq, eS_skip, eS_ret, eS_ex, eS_asg, eS_ite, eS_raise, eE_call, eE_bi, eE_var, eE_cst, eE_glo, eE_fnv, eE_tup, eE_lst, eE_and, eE_or, eE_not, eE_ite, eE_mth, eE_chain, eE_sl, intP, slT, eA_cons, eA_nil, eT_nm, eT_tup, eT_cons, eT_nil, go_ok, go_exc, go_stuck, gv0, gvS, List.set_cons_zero, List.set_cons_succ, b_add, b_sub, b_mul, b_fdiv, b_mod, b_neg, b_abs, b_lt, b_le, b_gt, b_ge, b_eqI, b_neI, b_max, b_min, asBool_bl, mkTup1, mkTup2, b_idx, ix0, ix1, Bool.false_eq_true, reduceIte, is_ratio_call (k := k) (ask_enc (q := q c) (Nat.lt_of_lt_of_le (h.sz (List.mem_range.mp hc)).2 (pow_le2 (by omega))))]
  have hall : (fr n q).all isRatioD = true := by
    rw [List.all_eq_true]
    intro x hx
    obtain ⟨c, _, rfl⟩ := List.mem_map.mp hx
    exact isRatio_enc _
  have e1 : decide ((1 : Int) ≤ (n : Int)) = true := decide_eq_true (by omega)
  have e2 : decide ((n : Int) ≤ 40) = true := decide_eq_true (by omega)
  have hi := is_integer_call (k := k + 1) (d := o) (st := st) hp
  cases hio : isInt o with
  | false =>
    rw [hio] at hi
    simp only [b_check_recursion, eS_seq, eS_skip, eS_ret, eS_ex, eS_asg, eS_ite, eS_raise, eE_call, eE_bi, eE_var, eE_cst, eE_glo, eE_fnv, eE_tup, eE_lst, eE_and, eE_or, eE_not, eE_ite, eE_mth, eE_chain, eE_sl, intP, slT, eA_cons, eA_nil, eT_nm, eT_tup, eT_cons, eT_nil, go_ok, go_exc, go_stuck, gv0, gvS, List.set_cons_zero, List.set_cons_succ, b_add, b_sub, b_mul, b_fdiv, b_mod, b_neg, b_abs, b_lt, b_le, b_gt, b_ge, b_eqI, b_neI, b_max, b_min, asBool_bl, mkTup1, mkTup2, b_idx, ix0, ix1, Bool.false_eq_true, reduceIte, b_isinst, b_len, b_all, b_any, b_tuple, b_list, b_append, b_pop, b_rev, b_int, b_isN, b_isNN, eT_sub, mkL_in, mkL_new, Bool.not_true, Bool.not_false, it_two, it_three, lenL, lenTu, mkLst_nil, mkTup3, isTL, isTT, go_assoc, isT, fr_len, e1, e2, c_MOST_ROW, hc, allV_map, hall, hi]
  | true =>
    rw [hio] at hi
    cases o with
    | int i =>
      cases e3 : decide (i < 0) with
      | true => simp only [b_check_recursion, eS_seq, eS_skip, eS_ret, eS_ex, eS_asg, eS_ite, eS_raise, eE_call, eE_bi, eE_var, eE_cst, eE_glo, eE_fnv, eE_tup, eE_lst, eE_and, eE_or, eE_not, eE_ite, eE_mth, eE_chain, eE_sl, intP, slT, eA_cons, eA_nil, eT_nm, eT_tup, eT_cons, eT_nil, go_ok, go_exc, go_stuck, gv0, gvS, List.set_cons_zero, List.set_cons_succ, b_add, b_sub, b_mul, b_fdiv, b_mod, b_neg, b_abs, b_lt, b_le, b_gt, b_ge, b_eqI, b_neI, b_max, b_min, asBool_bl, mkTup1, mkTup2, b_idx, ix0, ix1, Bool.false_eq_true, reduceIte, b_isinst, b_len, b_all, b_any, b_tuple, b_list, b_append, b_pop, b_rev, b_int, b_isN, b_isNN, eT_sub, mkL_in, mkL_new, Bool.not_true, Bool.not_false, it_two, it_three, lenL, lenTu, mkLst_nil, mkTup3, isTL, isTT, go_assoc, isT, fr_len, e1, e2, c_MOST_ROW, hc, allV_map, hall, hi, e3]
      | false =>
        have e4 : decide ((20 : Int) < i) = true := by
          rcases ho i rfl with q | q
          · have := of_decide_eq_false e3; omega
          · exact decide_eq_true q
        simp only [b_check_recursion, eS_seq, eS_skip, eS_ret, eS_ex, eS_asg, eS_ite, eS_raise, eE_call, eE_bi, eE_var, eE_cst, eE_glo, eE_fnv, eE_tup, eE_lst, eE_and, eE_or, eE_not, eE_ite, eE_mth, eE_chain, eE_sl, intP, slT, eA_cons, eA_nil, eT_nm, eT_tup, eT_cons, eT_nil, go_ok, go_exc, go_stuck, gv0, gvS, List.set_cons_zero, List.set_cons_succ, b_add, b_sub, b_mul, b_fdiv, b_mod, b_neg, b_abs, b_lt, b_le, b_gt, b_ge, b_eqI, b_neI, b_max, b_min, asBool_bl, mkTup1, mkTup2, b_idx, ix0, ix1, Bool.false_eq_true, reduceIte, b_isinst, b_len, b_all, b_any, b_tuple, b_list, b_append, b_pop, b_rev, b_int, b_isN, b_isNN, eT_sub, mkL_in, mkL_new, Bool.not_true, Bool.not_false, it_two, it_three, lenL, lenTu, mkLst_nil, mkTup3, isTL, isTT, go_assoc, isT, fr_len, e1, e2, c_MOST_ROW, hc, allV_map, hall, hi, e3, e4, c_MOST_RECURSION]
    | _ => cases hio
theorem bad_paper {v o : D} (h : Bad v o) : ∃ w, callF tbl (k + 4) 15 [v, o] st = .exc ⟨0, .str w⟩ st := by
  obtain ⟨w, hw⟩ := h k st
  refine ⟨w, call_exc (d := d_recursion_paper) rfl rfl ?_⟩
  show evS (callF tbl (k + 3)) b_recursion_paper [some v, some o, none, none, none, none] st = _
  simp only [b_recursion_paper, eS_seq, eS_skip, eS_ret, eS_ex, eS_asg, eS_ite, eS_raise, eE_call, eE_bi, eE_var, eE_cst, eE_glo, eE_fnv, eE_tup, eE_lst, eE_and, eE_or, eE_not, eE_ite, eE_mth, eE_chain, eE_sl, intP, slT, eA_cons, eA_nil, eT_nm, eT_tup, eT_cons, eT_nil, go_ok, go_exc, go_stuck, gv0, gvS, List.set_cons_zero, List.set_cons_succ, b_add, b_sub, b_mul, b_fdiv, b_mod, b_neg, b_abs, b_lt, b_le, b_gt, b_ge, b_eqI, b_neI, b_max, b_min, asBool_bl, mkTup1, mkTup2, b_idx, ix0, ix1, Bool.false_eq_true, reduceIte, b_isinst, b_len, b_all, b_any, b_tuple, b_list, b_append, b_pop, b_rev, b_int, b_isN, b_isNN, eT_sub, mkL_in, mkL_new, Bool.not_true, Bool.not_false, it_two, it_three, lenL, lenTu, mkLst_nil, mkTup3, isTL, isTT, go_assoc, hw]
theorem bad_takes {v o p : D} (h : Bad v o) : ∃ w, callF tbl (k + 4) 13 [v, o, p] st = .exc ⟨0, .str w⟩ st := by
  obtain ⟨w, hw⟩ := h k st
  refine ⟨w, call_exc (d := d_takes_recursion) rfl rfl ?_⟩
  show evS (callF tbl (k + 3)) b_takes_recursion [some v, some o, some p, none, none, none] st = _
  simp only [b_takes_recursion, eS_seq, eS_skip, eS_ret, eS_ex, eS_asg, eS_ite, eS_raise, eE_call, eE_bi, eE_var, eE_cst, eE_glo, eE_fnv, eE_tup, eE_lst, eE_and, eE_or, eE_not, eE_ite, eE_mth, eE_chain, eE_sl, intP, slT, eA_cons, eA_nil, eT_nm, eT_tup, eT_cons, eT_nil, go_ok, go_exc, go_stuck, gv0, gvS, List.set_cons_zero, List.set_cons_succ, b_add, b_sub, b_mul, b_fdiv, b_mod, b_neg, b_abs, b_lt, b_le, b_gt, b_ge, b_eqI, b_neI, b_max, b_min, asBool_bl, mkTup1, mkTup2, b_idx, ix0, ix1, Bool.false_eq_true, reduceIte, b_isinst, b_len, b_all, b_any, b_tuple, b_list, b_append, b_pop, b_rev, b_int, b_isN, b_isNN, eT_sub, mkL_in, mkL_new, Bool.not_true, Bool.not_false, it_two, it_three, lenL, lenTu, mkLst_nil, mkTup3, isTL, isTT, go_assoc, hw]
end
end K82
set_option Elab.async false
set_option linter.all false
set_option maxRecDepth 100000
set_option maxHeartbeats 4000000
namespace K82
open PySem PC
section
variable {k : Nat} {rest st : Store}
theorem lstOf_cell {n : Nat} {xs : List D} (h : st[n]? = some (.lst xs)) : lstOf st (.ref n) = some xs := lst_ref h
theorem addRL {n : Nat} {xs ys : List D} (h : st[n]? = some (.lst xs)) (hl : xs.length + ys.length ≤ 16777216) : biV (.add true) [.ref n, .lst ys] st = .ok (.ref st.length) (st ++ [.lst (xs ++ ys)]) := by
  show (match lstOf st (.ref n), lstOf st (.lst ys) with
    | some xs, some ys => if fits (xs.length + ys.length) then mkL true (xs ++ ys) st else .stuck
    | _, _ => .stuck) = _
  rw [lst_ref h]
  show (if fits (xs.length + ys.length) then mkL true (xs ++ ys) st else .stuck) = _
  unfold fits
  rw [if_pos (decide_eq_true hl)]; rfl
theorem St.get1 {c : Cell} {r : Store} (h : St (c :: r) st) : st[1]? = some c := by
  obtain ⟨a, b, _, _, rfl⟩ := h; rfl
theorem St.get2 {b c : Cell} {r : Store} (h : St (b :: c :: r) st) : st[2]? = some c := by
  obtain ⟨a, b, _, _, rfl⟩ := h; rfl
theorem St.get3 {a b c : Cell} {r : Store} (h : St (a :: b :: c :: r) st) : st[3]? = some c := by
  obtain ⟨a, b, _, _, rfl⟩ := h; rfl
end
/-- what the draws make -/
def Drawn (r n : Nat) (q c : Nat → Rat) : Prop := r ≤ 20 ∧ (∃ B R, Row n B R q ∧ (r + 1) * ((2 * (r + 1) * B) ^ r * B) < 2 ^ 890) ∧ ∀ i, i < r → Ov 12 72 (c i)
theorem drawn_big {n r : Nat} {q c : Nat → Rat} (hn : 1 ≤ n) (hn2 : n ≤ 40) (hr : r ≤ 20) (hq : ∀ i, i < n → Ov 1 7 (q i)) (hc : ∀ i, i < r → Ov 12 72 (c i)) : Drawn r n q c := by
  refine ⟨hr, ⟨7, 1, ⟨hn, hn2, by decide, by decide, by decide, hq, by decide⟩, ?_⟩, hc⟩
  have h1 : (2 * (r + 1) * 7) ^ r ≤ (2 * 21 * 7) ^ 20 := Nat.le_trans (Nat.pow_le_pow_left (by omega) r) (Nat.pow_le_pow_right (by decide) hr)
  have h2 : (r + 1) * ((2 * (r + 1) * 7) ^ r * 7) ≤ 21 * ((2 * 21 * 7) ^ 20 * 7) := Nat.mul_le_mul (by omega) (Nat.mul_le_mul_right _ h1)
  refine Nat.lt_of_le_of_lt h2 ?_
  have h3 : 21 * ((2 * 21 * 7) ^ 20 * 7) < 2 ^ 200 := by decide
  exact Nat.lt_of_lt_of_le h3 (pow_le2 (by omega))
theorem drawn_small {n r : Nat} {q c : Nat → Rat} (hn : 1 ≤ n) (hn2 : n ≤ 12) (hr : r ≤ 6) {s : Nat} (hs : s ≤ 12) (hq : ∀ i, i < n → Ov (12 ^ (s + 1)) (72 * 432 ^ s) (q i)) (hc : ∀ i, i < r → Ov 12 72 (c i)) : Drawn r n q c := by
  have hB : 72 * 432 ^ 12 < 2 ^ 112 := by decide
  refine ⟨by omega, ⟨72 * 432 ^ 12, 12 ^ 13, ⟨hn, by omega, by decide, by decide, by decide, fun i hi => ?_, by decide⟩, ?_⟩, hc⟩
  · have := ov_scale (hq i hi) (e := 12 ^ (12 - s)) (Int.pow_ne_zero (by decide))
    rw [← Int.pow_add, show s + 1 + (12 - s) = 13 by omega, Int.natAbs_pow] at this
    refine ov_mono this ?_
    have h1 : (12 : Int).natAbs ^ (12 - s) ≤ 432 ^ (12 - s) := Nat.pow_le_pow_left (by decide) _
    calc 72 * 432 ^ s * (12 : Int).natAbs ^ (12 - s) ≤ 72 * 432 ^ s * 432 ^ (12 - s) := Nat.mul_le_mul_left _ h1
      _ = 72 * 432 ^ 12 := by rw [Nat.mul_assoc, ← Nat.pow_add, show s + (12 - s) = 12 by omega]
  · have hM : (2 * (r + 1) * (72 * 432 ^ 12)) ^ r ≤ (2 ^ 116) ^ 6 := by
      refine Nat.le_trans (Nat.pow_le_pow_left (m := 2 ^ 116) ?_ r) (Nat.pow_le_pow_right (by decide) hr)
      calc 2 * (r + 1) * (72 * 432 ^ 12) ≤ 14 * (72 * 432 ^ 12) := Nat.mul_le_mul_right _ (by omega)
        _ ≤ 2 ^ 116 := by decide
    calc (r + 1) * ((2 * (r + 1) * (72 * 432 ^ 12)) ^ r * (72 * 432 ^ 12)) ≤ 7 * ((2 ^ 116) ^ 6 * 2 ^ 112) := Nat.mul_le_mul (by omega) (Nat.mul_le_mul hM (Nat.le_of_lt hB))
      _ < 2 ^ 890 := by
        rw [← Nat.pow_mul, ← Nat.pow_add]
        have : 7 * 2 ^ (116 * 6 + 112) < 2 ^ 3 * 2 ^ (116 * 6 + 112) := Nat.mul_lt_mul_of_pos_right (by decide) (Nat.pow_pos (by decide))
        rw [← Nat.pow_add] at this
        exact Nat.lt_of_lt_of_le this (pow_le2 (by omega))

section
variable {k : Nat}
/-- the draws -/
theorem law_draw {ns : List Int} {Q : Fl → Store → Prop}
    (hQ : ∀ (r n : Nat) (q c : Nat → Rat) (st : Store), St [] st → Drawn r n q c → Q (.nx [some (scriptD ns), some (.ref 0), some (.int (r : Nat)), some (.int (n : Nat)), some (.tup (fr n q)), some (.tup (fr r c)), none, none, none, none, none, none, none, none]) st) {T : S}
    (hT : T = .ite (.bi .eq (.cons (.call 17 (.cons (.var 1) (.cons (.cst (.int 8)) .nil))) (.cons (.cst (.int 0)) .nil))) (.seq (.asg (.tup (.cons (.nm 2) (.cons (.nm 3) .nil))) (.tup (.cons (.call 17 (.cons (.var 1) (.cons (.cst (.int 21)) .nil))) (.cons (.bi (.add false) (.cons (.cst (.int 30)) (.cons (.call 17 (.cons (.var 1) (.cons (.cst (.int 11)) .nil))) .nil))) .nil)))) (.seq (.asg (.tup (.cons (.nm 4) (.cons (.nm 5) .nil))) (.tup (.cons (.bi .tuple (.cons (.comp false (.call 24 (.cons (.bi (.add false) (.cons (.cst (.int 1)) (.cons (.bi .mod (.cons (.bi .int (.cons (.bi (.add false) (.cons (.bi (.mul false) (.cons (.var 12) (.cons (.var 12) .nil))) (.cons (.cst (.int 3)) .nil))) .nil)) (.cons (.cst (.int 7)) .nil))) .nil))) (.cons (.cst (.int 1)) .nil))) [12] true (.rg1 (.var 3)) (.cst (.bl true))) .nil)) (.cons (.call 30 (.cons (.var 1) (.cons (.var 2) .nil))) .nil)))) .skip)) (.seq (.ite (.bi .eq (.cons (.call 17 (.cons (.var 1) (.cons (.cst (.int 2)) .nil))) (.cons (.cst (.int 0)) .nil))) (.seq (.asg (.tup (.cons (.nm 4) (.cons (.nm 5) .nil))) (.call 36 (.cons (.var 1) (.cons (.var 2) (.cons (.var 3) .nil))))) .skip) (.seq (.asg (.tup (.cons (.nm 4) (.cons (.nm 5) .nil))) (.tup (.cons (.call 30 (.cons (.var 1) (.cons (.var 3) .nil))) (.cons (.call 30 (.cons (.var 1) (.cons (.var 2) .nil))) .nil)))) .skip)) .skip))
    {st : Store} (h : St [] st) {r n : Nat} (hr : r < 7) (hn1 : 1 ≤ n) (hn : n ≤ 12) :
    Wp (evS (callF tbl (k + 5)) T [some (scriptD ns), some (.ref 0), some (.int (r : Nat)), some (.int (n : Nat)), none, none, none, none, none, none, none, none, none, none] st) Q := by
  subst hT
  have toss : ∀ (m : Nat) (hm : 1 ≤ m) (hm2 : m < 2 ^ 60) (st : Store), St [] st → Wp (evE (callF tbl (k + 5)) (.bi .eq (.cons (.call 17 (.cons (.var 1) (.cons (.cst (.int (m : Nat))) .nil))) (.cons (.cst (.int 0)) .nil))) [some (scriptD ns), some (.ref 0), some (.int (r : Nat)), some (.int (n : Nat)), none, none, none, none, none, none, none, none, none, none] st) fun d st' => St [] st' ∧ ∃ x, d = .bl x := fun m hm hm2 st h => by
    simp only [eE_bi, eA_cons, eA_nil, eE_call, eE_var, eE_cst, gv0, gvS, go_ok, go_assoc]
    refine Wp.by_ (take_wp (k := k + 4) h hm hm2) fun d st1 ⟨h1, v, hv, e⟩ => ?_
    subst e
    try simp only [go_ok]
    exact Wp.of b_eqI ⟨h1, _, rfl⟩
  have frac7 : ∀ (i : Nat), i < 40 → ∃ x : Rat, Ov 1 7 x ∧ ∀ (ρ : Rho) (st : Store), ρ[12]? = some (some (.int (i : Nat))) → evE (callF tbl (k + 5)) (.call 24 (.cons (.bi (.add false) (.cons (.cst (.int 1)) (.cons (.bi .mod (.cons (.bi .int (.cons (.bi (.add false) (.cons (.bi (.mul false) (.cons (.var 12) (.cons (.var 12) .nil))) (.cons (.cst (.int 3)) .nil))) .nil)) (.cons (.cst (.int 7)) .nil))) .nil))) (.cons (.cst (.int 1)) .nil))) ρ st = .ok (encR x) st := fun i hi => by
    obtain ⟨v, hv, ev⟩ := fmod_pos (a := (i : Int) * i + 3) (m := 7) (by decide)
    have ev : ((i : Int) * i + 3).fmod 7 = (v : Int) := ev
    refine ⟨Rat.divInt (1 + (v : Int)) 1, ⟨1 + (v : Int), by omega, by rw [Rat.divInt_eq_div]⟩, fun ρ st hρ => ?_⟩
    have hg : getV ρ 12 st = .ok (.int (i : Nat)) st := by unfold getV; rw [hρ]
    have hm : mulOk (i : Int) (i : Int) = true := mulOk_fi (by
        show (i : Int).natAbs < _
        have : (i : Int).natAbs < 2 ^ 6 := by omega
        exact Nat.lt_of_lt_of_le this (pow_le2 (by omega))) (by
        show (i : Int).natAbs < _
        have : (i : Int).natAbs < 2 ^ 6 := by omega
        exact Nat.lt_of_lt_of_le this (pow_le2 (by omega)))
    have hf := law_frac_call (k := k + 4) (n := 1 + (v : Int)) (d := 1) (st := st) (by decide) (by
      show (1 : Int).natAbs < 2 ^ 9000
      exact Nat.lt_of_lt_of_le (by decide : (1 : Int).natAbs < 2 ^ 1) (pow_le2 (by omega)))
    simp only [eS_seq, eS_skip, eS_ret, eS_ex, eS_asg, eS_ite, eS_raise, eE_call, eE_bi, eE_var, eE_cst, eE_glo, eE_fnv, eE_tup, eE_lst, eE_and, eE_or, eE_not, eE_ite, eE_mth, eE_chain, eE_sl, intP, slT, eA_cons, eA_nil, eT_nm, eT_tup, eT_cons, eT_nil, go_ok, go_exc, go_stuck, gv0, gvS, List.set_cons_zero, List.set_cons_succ, b_add, b_sub, b_mul, b_fdiv, b_mod, b_neg, b_abs, b_lt, b_le, b_gt, b_ge, b_eqI, b_neI, b_max, b_min, asBool_bl, mkTup1, mkTup2, b_idx, ix0, ix1, Bool.false_eq_true, reduceIte, b_isinst, b_len, b_all, b_any, b_tuple, b_list, b_append, b_pop, b_rev, b_int, b_isN, b_isNN, eT_sub, mkL_in, mkL_new, Bool.not_true, Bool.not_false, it_two, it_three, lenL, lenTu, mkLst_nil, mkTup3, isTL, isTT, go_assoc, hg, hm, ev, show decide ((7 : Int) ≠ 0) = true from by decide, hf]
  refine wp_iteW ((toss 8 (by decide) (by decide) st h).mono ?_)
  rintro d st1 ⟨h1, x, rfl⟩
  refine ⟨x, rfl, ?_⟩
  cases x with
  | true =>
    rw [if_pos rfl]
    refine wp_seq (wp_asgTW ?_)
    refine Wp.mono (Q := fun d st' => St [] st' ∧ ∃ r' n' : Nat, r' ≤ 20 ∧ 30 ≤ n' ∧ n' ≤ 40 ∧ d = .tup [.int (r' : Nat), .int (n' : Nat)]) ?_ ?_
    · simp only [eS_seq, eS_skip, eS_ret, eS_ex, eS_asg, eS_ite, eS_raise, eE_call, eE_bi, eE_var, eE_cst, eE_glo, eE_fnv, eE_tup, eE_lst, eE_and, eE_or, eE_not, eE_ite, eE_mth, eE_chain, eE_sl, intP, slT, eA_cons, eA_nil, eT_nm, eT_tup, eT_cons, eT_nil, go_ok, go_exc, go_stuck, gv0, gvS, List.set_cons_zero, List.set_cons_succ, b_add, b_sub, b_mul, b_fdiv, b_mod, b_neg, b_abs, b_lt, b_le, b_gt, b_ge, b_eqI, b_neI, b_max, b_min, asBool_bl, mkTup1, mkTup2, b_idx, ix0, ix1, Bool.false_eq_true, reduceIte, b_isinst, b_len, b_all, b_any, b_tuple, b_list, b_append, b_pop, b_rev, b_int, b_isN, b_isNN, eT_sub, mkL_in, mkL_new, Bool.not_true, Bool.not_false, it_two, it_three, lenL, lenTu, mkLst_nil, mkTup3, isTL, isTT, go_assoc]
      refine Wp.by_ (take_wp (k := k + 4) (m := 21) h1 (by decide) (by decide)) fun d st2 ⟨h2, v, hv, e⟩ => ?_
      subst e
      try simp only [eS_seq, eS_skip, eS_ret, eS_ex, eS_asg, eS_ite, eS_raise, eE_call, eE_bi, eE_var, eE_cst, eE_glo, eE_fnv, eE_tup, eE_lst, eE_and, eE_or, eE_not, eE_ite, eE_mth, eE_chain, eE_sl, intP, slT, eA_cons, eA_nil, eT_nm, eT_tup, eT_cons, eT_nil, go_ok, go_exc, go_stuck, gv0, gvS, List.set_cons_zero, List.set_cons_succ, b_add, b_sub, b_mul, b_fdiv, b_mod, b_neg, b_abs, b_lt, b_le, b_gt, b_ge, b_eqI, b_neI, b_max, b_min, asBool_bl, mkTup1, mkTup2, b_idx, ix0, ix1, Bool.false_eq_true, reduceIte, b_isinst, b_len, b_all, b_any, b_tuple, b_list, b_append, b_pop, b_rev, b_int, b_isN, b_isNN, eT_sub, mkL_in, mkL_new, Bool.not_true, Bool.not_false, it_two, it_three, lenL, lenTu, mkLst_nil, mkTup3, isTL, isTT, go_assoc]
      refine Wp.by_ (take_wp (k := k + 4) (m := 11) h2 (by decide) (by decide)) fun d st3 ⟨h3, w, hw, e⟩ => ?_
      subst e
      try simp only [eS_seq, eS_skip, eS_ret, eS_ex, eS_asg, eS_ite, eS_raise, eE_call, eE_bi, eE_var, eE_cst, eE_glo, eE_fnv, eE_tup, eE_lst, eE_and, eE_or, eE_not, eE_ite, eE_mth, eE_chain, eE_sl, intP, slT, eA_cons, eA_nil, eT_nm, eT_tup, eT_cons, eT_nil, go_ok, go_exc, go_stuck, gv0, gvS, List.set_cons_zero, List.set_cons_succ, b_add, b_sub, b_mul, b_fdiv, b_mod, b_neg, b_abs, b_lt, b_le, b_gt, b_ge, b_eqI, b_neI, b_max, b_min, asBool_bl, mkTup1, mkTup2, b_idx, ix0, ix1, Bool.false_eq_true, reduceIte, b_isinst, b_len, b_all, b_any, b_tuple, b_list, b_append, b_pop, b_rev, b_int, b_isN, b_isNN, eT_sub, mkL_in, mkL_new, Bool.not_true, Bool.not_false, it_two, it_three, lenL, lenTu, mkLst_nil, mkTup3, isTL, isTT, go_assoc]
      exact Wp.ok ⟨h3, v, 30 + w, by omega, by omega, by omega, by rw [Int.natCast_add]; rfl⟩
    rintro d st2 ⟨h2, r', n', hr', hn30, hn40, rfl⟩
    refine Wp.of (a := [some (scriptD ns), some (.ref 0), some (.int (r' : Nat)), some (.int (n' : Nat)), none, none, none, none, none, none, none, none, none, none]) (st := st2) (by simp only [eS_seq, eS_skip, eS_ret, eS_ex, eS_asg, eS_ite, eS_raise, eE_call, eE_bi, eE_var, eE_cst, eE_glo, eE_fnv, eE_tup, eE_lst, eE_and, eE_or, eE_not, eE_ite, eE_mth, eE_chain, eE_sl, intP, slT, eA_cons, eA_nil, eT_nm, eT_tup, eT_cons, eT_nil, go_ok, go_exc, go_stuck, gv0, gvS, List.set_cons_zero, List.set_cons_succ, b_add, b_sub, b_mul, b_fdiv, b_mod, b_neg, b_abs, b_lt, b_le, b_gt, b_ge, b_eqI, b_neI, b_max, b_min, asBool_bl, mkTup1, mkTup2, b_idx, ix0, ix1, Bool.false_eq_true, reduceIte, b_isinst, b_len, b_all, b_any, b_tuple, b_list, b_append, b_pop, b_rev, b_int, b_isN, b_isNN, eT_sub, mkL_in, mkL_new, Bool.not_true, Bool.not_false, it_two, it_three, lenL, lenTu, mkLst_nil, mkTup3, isTL, isTT, go_assoc] <;> rfl) ?_
    refine wp_seq (wp_asgTW ?_)
    have hx : ∀ i, ∃ x : Rat, i < 40 → Ov 1 7 x ∧ ∀ (ρ : Rho) (st : Store), ρ[12]? = some (some (.int (i : Nat))) → evE (callF tbl (k + 5)) (.call 24 (.cons (.bi (.add false) (.cons (.cst (.int 1)) (.cons (.bi .mod (.cons (.bi .int (.cons (.bi (.add false) (.cons (.bi (.mul false) (.cons (.var 12) (.cons (.var 12) .nil))) (.cons (.cst (.int 3)) .nil))) .nil)) (.cons (.cst (.int 7)) .nil))) .nil))) (.cons (.cst (.int 1)) .nil))) ρ st = .ok (encR x) st := fun i => by
      by_cases hi : i < 40
      · obtain ⟨x, hx⟩ := frac7 i hi
        exact ⟨x, fun _ => hx⟩
      · exact ⟨0, fun h => absurd h hi⟩
    have hxs := fun i => (hx i).choose_spec
    generalize hq : (fun i => (hx i).choose) = q at *
    have hqe : ∀ i, (hx i).choose = q i := fun i => by rw [← hq]
    refine Wp.mono (Q := fun d st' => St [] st' ∧ ∃ c, (∀ i, i < r' → Ov 12 72 (c i)) ∧ d = .tup [.tup (fr n' q), .tup (fr r' c)]) ?_ ?_
    · simp only [eE_tup, eA_cons, eA_nil, eE_bi, go_assoc]
      refine Wp.on (comp_range (n := n') (g := fun i => (i : Int)) (r := fun i => encR (q i)) (src_rg1 (n := n') rfl rfl (by omega)) (fun i hi => ?_) (by omega)) ?_
      · have := (hxs i (by omega)).2
        rw [hqe] at this
        exact this _ _ rfl
      · have hl : ∀ st, tupleV (.lst (fr n' q)) st = .ok (.tup (fr n' q)) st := fun _ => rfl
        unfold fr at hl
        simp only [eS_seq, eS_skip, eS_ret, eS_ex, eS_asg, eS_ite, eS_raise, eE_call, eE_bi, eE_var, eE_cst, eE_glo, eE_fnv, eE_tup, eE_lst, eE_and, eE_or, eE_not, eE_ite, eE_mth, eE_chain, eE_sl, intP, slT, eA_cons, eA_nil, eT_nm, eT_tup, eT_cons, eT_nil, go_ok, go_exc, go_stuck, gv0, gvS, List.set_cons_zero, List.set_cons_succ, b_add, b_sub, b_mul, b_fdiv, b_mod, b_neg, b_abs, b_lt, b_le, b_gt, b_ge, b_eqI, b_neI, b_max, b_min, asBool_bl, mkTup1, mkTup2, b_idx, ix0, ix1, Bool.false_eq_true, reduceIte, b_isinst, b_len, b_all, b_any, b_tuple, b_list, b_append, b_pop, b_rev, b_int, b_isN, b_isNN, eT_sub, mkL_in, mkL_new, Bool.not_true, Bool.not_false, it_two, it_three, lenL, lenTu, mkLst_nil, mkTup3, isTL, isTT, go_assoc, hl]
        refine Wp.by_ (row_wp (k := k + 2) (n := r') h2 (by omega)) fun d st3 ⟨h3, c, e, hc⟩ => ?_
        subst e
        try simp only [eS_seq, eS_skip, eS_ret, eS_ex, eS_asg, eS_ite, eS_raise, eE_call, eE_bi, eE_var, eE_cst, eE_glo, eE_fnv, eE_tup, eE_lst, eE_and, eE_or, eE_not, eE_ite, eE_mth, eE_chain, eE_sl, intP, slT, eA_cons, eA_nil, eT_nm, eT_tup, eT_cons, eT_nil, go_ok, go_exc, go_stuck, gv0, gvS, List.set_cons_zero, List.set_cons_succ, b_add, b_sub, b_mul, b_fdiv, b_mod, b_neg, b_abs, b_lt, b_le, b_gt, b_ge, b_eqI, b_neI, b_max, b_min, asBool_bl, mkTup1, mkTup2, b_idx, ix0, ix1, Bool.false_eq_true, reduceIte, b_isinst, b_len, b_all, b_any, b_tuple, b_list, b_append, b_pop, b_rev, b_int, b_isN, b_isNN, eT_sub, mkL_in, mkL_new, Bool.not_true, Bool.not_false, it_two, it_three, lenL, lenTu, mkLst_nil, mkTup3, isTL, isTT, go_assoc]
        exact Wp.ok ⟨h3, c, hc, rfl⟩
    · rintro d st3 ⟨h3, c, hc, rfl⟩
      refine Wp.of (a := [some (scriptD ns), some (.ref 0), some (.int (r' : Nat)), some (.int (n' : Nat)), some (.tup (fr n' q)), some (.tup (fr r' c)), none, none, none, none, none, none, none, none]) (st := st3) (by simp only [eS_seq, eS_skip, eS_ret, eS_ex, eS_asg, eS_ite, eS_raise, eE_call, eE_bi, eE_var, eE_cst, eE_glo, eE_fnv, eE_tup, eE_lst, eE_and, eE_or, eE_not, eE_ite, eE_mth, eE_chain, eE_sl, intP, slT, eA_cons, eA_nil, eT_nm, eT_tup, eT_cons, eT_nil, go_ok, go_exc, go_stuck, gv0, gvS, List.set_cons_zero, List.set_cons_succ, b_add, b_sub, b_mul, b_fdiv, b_mod, b_neg, b_abs, b_lt, b_le, b_gt, b_ge, b_eqI, b_neI, b_max, b_min, asBool_bl, mkTup1, mkTup2, b_idx, ix0, ix1, Bool.false_eq_true, reduceIte, b_isinst, b_len, b_all, b_any, b_tuple, b_list, b_append, b_pop, b_rev, b_int, b_isN, b_isNN, eT_sub, mkL_in, mkL_new, Bool.not_true, Bool.not_false, it_two, it_three, lenL, lenTu, mkLst_nil, mkTup3, isTL, isTT, go_assoc] <;> rfl) ?_
      refine wp_skip (hQ r' n' q c st3 h3 (drawn_big (by omega) hn40 hr' (fun i hi => ?_) hc))
      have := (hxs i (by omega)).1
      rwa [hqe] at this
  | false =>
    rw [if_neg (by decide)]
    refine wp_seq (wp_iteW ((toss 2 (by decide) (by decide) st1 h1).mono ?_))
    rintro d st2 ⟨h2, x, rfl⟩
    refine ⟨x, rfl, ?_⟩
    cases x with
    | true =>
      rw [if_pos rfl]
      refine wp_seq (wp_asgTW ?_)
      refine Wp.mono (Q := fun d st' => St [] st' ∧ ∃ q c, Drawn r n q c ∧ d = .tup [.tup (fr n q), .tup (fr r c)]) ?_ ?_
      · simp only [eS_seq, eS_skip, eS_ret, eS_ex, eS_asg, eS_ite, eS_raise, eE_call, eE_bi, eE_var, eE_cst, eE_glo, eE_fnv, eE_tup, eE_lst, eE_and, eE_or, eE_not, eE_ite, eE_mth, eE_chain, eE_sl, intP, slT, eA_cons, eA_nil, eT_nm, eT_tup, eT_cons, eT_nil, go_ok, go_exc, go_stuck, gv0, gvS, List.set_cons_zero, List.set_cons_succ, b_add, b_sub, b_mul, b_fdiv, b_mod, b_neg, b_abs, b_lt, b_le, b_gt, b_ge, b_eqI, b_neI, b_max, b_min, asBool_bl, mkTup1, mkTup2, b_idx, ix0, ix1, Bool.false_eq_true, reduceIte, b_isinst, b_len, b_all, b_any, b_tuple, b_list, b_append, b_pop, b_rev, b_int, b_isN, b_isNN, eT_sub, mkL_in, mkL_new, Bool.not_true, Bool.not_false, it_two, it_three, lenL, lenTu, mkLst_nil, mkTup3, isTL, isTT, go_assoc]
        refine (made_wp (k := k + 1) (r := r) (size := n) h2 (by omega) hn1 hn).mono ?_
        rintro d st3 ⟨h3, q, c, rfl, hq, hc⟩
        exact ⟨h3, q, c, drawn_small hn1 hn (by omega) hn hq hc, rfl⟩
      · rintro d st3 ⟨h3, q, c, hD, rfl⟩
        refine Wp.of (a := [some (scriptD ns), some (.ref 0), some (.int (r : Nat)), some (.int (n : Nat)), some (.tup (fr n q)), some (.tup (fr r c)), none, none, none, none, none, none, none, none]) (st := st3) (by simp only [eS_seq, eS_skip, eS_ret, eS_ex, eS_asg, eS_ite, eS_raise, eE_call, eE_bi, eE_var, eE_cst, eE_glo, eE_fnv, eE_tup, eE_lst, eE_and, eE_or, eE_not, eE_ite, eE_mth, eE_chain, eE_sl, intP, slT, eA_cons, eA_nil, eT_nm, eT_tup, eT_cons, eT_nil, go_ok, go_exc, go_stuck, gv0, gvS, List.set_cons_zero, List.set_cons_succ, b_add, b_sub, b_mul, b_fdiv, b_mod, b_neg, b_abs, b_lt, b_le, b_gt, b_ge, b_eqI, b_neI, b_max, b_min, asBool_bl, mkTup1, mkTup2, b_idx, ix0, ix1, Bool.false_eq_true, reduceIte, b_isinst, b_len, b_all, b_any, b_tuple, b_list, b_append, b_pop, b_rev, b_int, b_isN, b_isNN, eT_sub, mkL_in, mkL_new, Bool.not_true, Bool.not_false, it_two, it_three, lenL, lenTu, mkLst_nil, mkTup3, isTL, isTT, go_assoc] <;> rfl) ?_
        exact wp_skip (wp_skip (hQ r n q c st3 h3 hD))
    | false =>
      rw [if_neg (by decide)]
      refine wp_seq (wp_asgTW ?_)
      refine Wp.mono (Q := fun d st' => St [] st' ∧ ∃ q c, Drawn r n q c ∧ d = .tup [.tup (fr n q), .tup (fr r c)]) ?_ ?_
      · simp only [eS_seq, eS_skip, eS_ret, eS_ex, eS_asg, eS_ite, eS_raise, eE_call, eE_bi, eE_var, eE_cst, eE_glo, eE_fnv, eE_tup, eE_lst, eE_and, eE_or, eE_not, eE_ite, eE_mth, eE_chain, eE_sl, intP, slT, eA_cons, eA_nil, eT_nm, eT_tup, eT_cons, eT_nil, go_ok, go_exc, go_stuck, gv0, gvS, List.set_cons_zero, List.set_cons_succ, b_add, b_sub, b_mul, b_fdiv, b_mod, b_neg, b_abs, b_lt, b_le, b_gt, b_ge, b_eqI, b_neI, b_max, b_min, asBool_bl, mkTup1, mkTup2, b_idx, ix0, ix1, Bool.false_eq_true, reduceIte, b_isinst, b_len, b_all, b_any, b_tuple, b_list, b_append, b_pop, b_rev, b_int, b_isN, b_isNN, eT_sub, mkL_in, mkL_new, Bool.not_true, Bool.not_false, it_two, it_three, lenL, lenTu, mkLst_nil, mkTup3, isTL, isTT, go_assoc]
        refine Wp.by_ (row_wp (k := k + 2) (n := n) h2 (by omega)) fun d st3 ⟨h3, q, e, hq⟩ => ?_
        subst e
        try simp only [eS_seq, eS_skip, eS_ret, eS_ex, eS_asg, eS_ite, eS_raise, eE_call, eE_bi, eE_var, eE_cst, eE_glo, eE_fnv, eE_tup, eE_lst, eE_and, eE_or, eE_not, eE_ite, eE_mth, eE_chain, eE_sl, intP, slT, eA_cons, eA_nil, eT_nm, eT_tup, eT_cons, eT_nil, go_ok, go_exc, go_stuck, gv0, gvS, List.set_cons_zero, List.set_cons_succ, b_add, b_sub, b_mul, b_fdiv, b_mod, b_neg, b_abs, b_lt, b_le, b_gt, b_ge, b_eqI, b_neI, b_max, b_min, asBool_bl, mkTup1, mkTup2, b_idx, ix0, ix1, Bool.false_eq_true, reduceIte, b_isinst, b_len, b_all, b_any, b_tuple, b_list, b_append, b_pop, b_rev, b_int, b_isN, b_isNN, eT_sub, mkL_in, mkL_new, Bool.not_true, Bool.not_false, it_two, it_three, lenL, lenTu, mkLst_nil, mkTup3, isTL, isTT, go_assoc]
        refine Wp.by_ (row_wp (k := k + 2) (n := r) h3 (by omega)) fun d st4 ⟨h4, c, e, hc⟩ => ?_
        subst e
        try simp only [eS_seq, eS_skip, eS_ret, eS_ex, eS_asg, eS_ite, eS_raise, eE_call, eE_bi, eE_var, eE_cst, eE_glo, eE_fnv, eE_tup, eE_lst, eE_and, eE_or, eE_not, eE_ite, eE_mth, eE_chain, eE_sl, intP, slT, eA_cons, eA_nil, eT_nm, eT_tup, eT_cons, eT_nil, go_ok, go_exc, go_stuck, gv0, gvS, List.set_cons_zero, List.set_cons_succ, b_add, b_sub, b_mul, b_fdiv, b_mod, b_neg, b_abs, b_lt, b_le, b_gt, b_ge, b_eqI, b_neI, b_max, b_min, asBool_bl, mkTup1, mkTup2, b_idx, ix0, ix1, Bool.false_eq_true, reduceIte, b_isinst, b_len, b_all, b_any, b_tuple, b_list, b_append, b_pop, b_rev, b_int, b_isN, b_isNN, eT_sub, mkL_in, mkL_new, Bool.not_true, Bool.not_false, it_two, it_three, lenL, lenTu, mkLst_nil, mkTup3, isTL, isTT, go_assoc]
        exact Wp.ok ⟨h4, q, c, drawn_small hn1 hn (by omega) (s := 0) (by omega) hq hc, rfl⟩
      · rintro d st3 ⟨h3, q, c, hD, rfl⟩
        refine Wp.of (a := [some (scriptD ns), some (.ref 0), some (.int (r : Nat)), some (.int (n : Nat)), some (.tup (fr n q)), some (.tup (fr r c)), none, none, none, none, none, none, none, none]) (st := st3) (by simp only [eS_seq, eS_skip, eS_ret, eS_ex, eS_asg, eS_ite, eS_raise, eE_call, eE_bi, eE_var, eE_cst, eE_glo, eE_fnv, eE_tup, eE_lst, eE_and, eE_or, eE_not, eE_ite, eE_mth, eE_chain, eE_sl, intP, slT, eA_cons, eA_nil, eT_nm, eT_tup, eT_cons, eT_nil, go_ok, go_exc, go_stuck, gv0, gvS, List.set_cons_zero, List.set_cons_succ, b_add, b_sub, b_mul, b_fdiv, b_mod, b_neg, b_abs, b_lt, b_le, b_gt, b_ge, b_eqI, b_neI, b_max, b_min, asBool_bl, mkTup1, mkTup2, b_idx, ix0, ix1, Bool.false_eq_true, reduceIte, b_isinst, b_len, b_all, b_any, b_tuple, b_list, b_append, b_pop, b_rev, b_int, b_isN, b_isNN, eT_sub, mkL_in, mkL_new, Bool.not_true, Bool.not_false, it_two, it_three, lenL, lenTu, mkLst_nil, mkTup3, isTL, isTT, go_assoc] <;> rfl) ?_
        exact wp_skip (wp_skip (hQ r n q c st3 h3 hD))
end
end K82
set_option Elab.async false
set_option linter.all false
set_option maxRecDepth 100000
set_option maxHeartbeats 4000000
namespace K82
open PySem PC
section
variable {k : Nat} {st : Store}
theorem small_sc {m : Nat} {z : Nat → Rat} {e : Int} {X : Nat} (hm : m ≤ 40) (h0 : e ≠ 0) (he : e.natAbs < 2 ^ 890) (hX : X < 2 ^ 890) (h : ∀ c, c < m → Ov e X (z c)) : Small (fr m fun c => z c * 2) := small_fr (b := 891) (X := X * 2) (e := e) (by omega) h0 (Nat.lt_of_lt_of_le he (pow_le2 (by omega))) (by rw [Nat.pow_succ]; omega) (by omega) fun c hc => by
  obtain ⟨n, hn, e'⟩ := h c hc
  refine ⟨n * 2, by omega, ?_⟩
  rw [e', Rat.intCast_mul]
  have : ((2 : Int) : Rat) = 2 := rfl
  rw [this]
  have := intCast_ne h0
  grind
theorem small_more {m : Nat} {z : Nat → Rat} {e : Int} {X : Nat} (hm : m ≤ 40) (h0 : e ≠ 0) (he : e.natAbs < 2 ^ 890) (hX : X < 2 ^ 890) (h : ∀ c, c < m → Ov e X (z c)) : Small (fr m z ++ [.tup [.int 0, .int 1]]) := by
  have e1 : fr m z ++ [.tup [.int 0, .int 1]] = fr (m + 1) (fun j => if j = m then 0 else z j) := by rw [fr_snoc]; rfl
  rw [e1]
  refine small_fr (b := 890) (X := X) (e := e) (by omega) h0 he hX (by omega) fun c hc => ?_
  by_cases e2 : c = m
  · rw [if_pos e2]; exact ov_zero
  · rw [if_neg e2]; exact h c (by omega)
theorem small_rep {m : Nat} {x : Rat} (hm : m ≤ 40) (hx : x = 0 ∨ x = 1) : Small (List.replicate m (encR x)) := ⟨by rw [List.length_replicate]; omega, 1, 1, by decide, Nat.one_lt_two_pow (by decide), Nat.one_lt_two_pow (by decide), fun y hy => by
  have := (List.mem_replicate.mp hy).2
  refine ⟨x, this, ?_⟩
  rcases hx with rfl | rfl
  · exact ov_zero
  · refine ⟨1, by decide, ?_⟩
    have : ((1 : Int) : Rat) = 1 := rfl
    rw [this]; grind⟩
/-- the papers, one after the other -/
theorem law_judge {n B r : Nat} {R : Int} {q : Nat → Rat} (h : Row n B R q) (hr : r ≤ 20) {ps : List D} (hps : ∀ p ∈ ps, PapOk p) {c1 c2 : Cell} (hS : St [c1, c2, .lst ps] st) {s0 : Option D} {x5 x6 x7 x9 : Option D} {Q : Fl → Store → Prop}
    (hQ : ∀ x10, Q (.nx [s0, some (.ref 0), some (.int (r : Nat)), some (.int (n : Nat)), some (.tup (fr n q)), x5, x6, x7, some (.ref 3), x9, x10, none, none, none]) st) :
    Wp (evS (callF tbl (k + 8)) (.for_ (.nm 10) (.sq (.var 8)) (.seq (.ite (.not_ (.call 18 (.cons (.call 13 (.cons (.var 4) (.cons (.var 2) (.cons (.var 10) .nil)))) (.cons (.call 34 (.cons (.var 4) (.cons (.var 2) (.cons (.var 10) .nil)))) .nil)))) (.seq (.ret (.cst (.bl false))) .skip) .skip) .skip))
      [s0, some (.ref 0), some (.int (r : Nat)), some (.int (n : Nat)), some (.tup (fr n q)), x5, x6, x7, some (.ref 3), x9, none, none, none, none] st) Q := by
  refine wp_cell (xs := ps) (n := 3) rfl (fun i ρ st' => st' = st ∧ ∃ x10, ρ = [s0, some (.ref 0), some (.int (r : Nat)), some (.int (n : Nat)), some (.tup (fr n q)), x5, x6, x7, some (.ref 3), x9, x10, none, none, none]) ?_ ?_ ?_ ?_
  · rintro i ρ st' ⟨rfl, _⟩; exact hS.get3
  · exact ⟨rfl, _, rfl⟩
  · rintro i p hp ρ st' ⟨hst, x10, rfl⟩
    subst hst
    have hok := hps p (List.mem_of_getElem? hp)
    have h1 := takes_call (k := k + 1) (st := st') h hr hok
    have h2 := lholds_call (k := k + 1) (st := st') h hr hok
    have h3 := says_call (k := k + 7) (st := st') (a := holdsD n r q p) (b := holdsD n r q p)
    rw [beq_self_eq_true] at h3
    simp only [eT_tup, it_two, it_three, eT_cons, eT_nm, eT_nil, go_ok, List.set_cons_zero, List.set_cons_succ]
    exact wp_seq (wp_iteF (st' := st') (by simp only [eS_seq, eS_skip, eS_ret, eS_ex, eS_asg, eS_ite, eS_raise, eE_call, eE_bi, eE_var, eE_cst, eE_glo, eE_fnv, eE_tup, eE_lst, eE_and, eE_or, eE_not, eE_ite, eE_mth, eE_chain, eE_sl, intP, slT, eA_cons, eA_nil, eT_nm, eT_tup, eT_cons, eT_nil, go_ok, go_exc, go_stuck, gv0, gvS, List.set_cons_zero, List.set_cons_succ, b_add, b_sub, b_mul, b_fdiv, b_mod, b_neg, b_abs, b_lt, b_le, b_gt, b_ge, b_eqI, b_neI, b_max, b_min, asBool_bl, mkTup1, mkTup2, b_idx, ix0, ix1, Bool.false_eq_true, reduceIte, b_isinst, b_len, b_all, b_any, b_tuple, b_list, b_append, b_pop, b_rev, b_int, b_isN, b_isNN, eT_sub, mkL_in, mkL_new, Bool.not_true, Bool.not_false, it_two, it_three, lenL, lenTu, mkLst_nil, mkTup3, isTL, isTT, go_assoc, h1, h2, h3] <;> rfl) (wp_skip (wp_skip ⟨rfl, _, rfl⟩)))
  · rintro ρ st' ⟨hst, x10, rfl⟩
    rw [hst]
    exact hQ _
/-- the bent papers -/
theorem law_bend {ps : List D} (hps : ∀ p ∈ ps, PapOk p) (hl : ps.length ≤ 100) {w : Str} {xs : List D} (hw : PyData.strOk w = true) (hx : Small xs) {c1 c2 : Cell} (hS : St [c1, c2, .lst ps] st) {s0 x2 x3 x4 x5 x7 : Option D} {Q : Fl → Store → Prop}
    (hQ : ∀ x9 ps' st', (∀ p ∈ ps', PapOk p) → St [c1, c2, .lst ps'] st' → Q (.nx [s0, some (.ref 0), x2, x3, x4, x5, some (.tup [.str "told", .tup [.str w, .tup xs]]), x7, some (.ref 3), x9, none, none, none, none]) st') :
    Wp (evS (callF tbl (k + 8)) (.for_ (.nm 9) (.rg1 (.cst (.int 10))) (.seq (.ex (.mth .append (.var 8) (.cons (.call 23 (.cons (.var 1) (.cons (.bi .idx (.cons (.var 6) (.cons (.cst (.int 1)) .nil))) (.cons (.cst (.int 0)) .nil)))) .nil))) .skip))
      [s0, some (.ref 0), x2, x3, x4, x5, some (.tup [.str "told", .tup [.str w, .tup xs]]), x7, some (.ref 3), none, none, none, none, none] st) Q := by
  refine wp_range (n := 10) (g := fun i => (i : Int)) (src_rg1 (n := 10) rfl rfl (by decide)) (fun i ρ st' => ∃ ps' x9, (∀ p ∈ ps', PapOk p) ∧ ps'.length ≤ 100 + i ∧ St [c1, c2, .lst ps'] st' ∧ ρ = [s0, some (.ref 0), x2, x3, x4, x5, some (.tup [.str "told", .tup [.str w, .tup xs]]), x7, some (.ref 3), x9, none, none, none, none]) ?_ ?_ ?_
  · exact ⟨ps, _, hps, hl, hS, rfl⟩
  · rintro i hi ρ st1 ⟨ps', x9, hp, hl', h1, rfl⟩
    have hil := isLst_ref h1.get3
    simp only [List.set_cons_zero, List.set_cons_succ]
    refine wp_seq (wp_exW ?_)
    refine Wp.mono (Q := fun _ st' => ∃ p, PapOk p ∧ St [c1, c2, .lst (ps' ++ [p])] st') ?_ ?_
    · simp only [eS_seq, eS_skip, eS_ret, eS_ex, eS_asg, eS_ite, eS_raise, eE_call, eE_bi, eE_var, eE_cst, eE_glo, eE_fnv, eE_tup, eE_lst, eE_and, eE_or, eE_not, eE_ite, eE_mth, eE_chain, eE_sl, intP, slT, eA_cons, eA_nil, eT_nm, eT_tup, eT_cons, eT_nil, go_ok, go_exc, go_stuck, gv0, gvS, List.set_cons_zero, List.set_cons_succ, b_add, b_sub, b_mul, b_fdiv, b_mod, b_neg, b_abs, b_lt, b_le, b_gt, b_ge, b_eqI, b_neI, b_max, b_min, asBool_bl, mkTup1, mkTup2, b_idx, ix0, ix1, Bool.false_eq_true, reduceIte, b_isinst, b_len, b_all, b_any, b_tuple, b_list, b_append, b_pop, b_rev, b_int, b_isN, b_isNN, eT_sub, mkL_in, mkL_new, Bool.not_true, Bool.not_false, it_two, it_three, lenL, lenTu, mkLst_nil, mkTup3, isTL, isTT, go_assoc, hil]
      refine Wp.by_ (bent_wp (k := k + 2) 3 (.tup [.str w, .tup xs]) 0 st1 h1 (nice_told hx)) fun d st2 ⟨h2, hb⟩ => ?_
      have hap := append_ref (x := d) h2.get3 (by omega)
      refine Wp.of hap ⟨d, pap_bent hw hx hb, ?_⟩
      exact h2.set (rest := [c1, c2])
    · rintro _ st2 ⟨p, hpp, h2⟩
      refine wp_skip ⟨ps' ++ [p], _, fun y hy => ?_, ?_, h2, rfl⟩
      · rcases List.mem_append.mp hy with q | q
        · exact hp y q
        · rw [List.mem_singleton.mp q]; exact hpp
      · rw [List.length_append]; simp only [List.length_cons, List.length_nil]; omega
  · rintro ρ st1 ⟨ps', x9, hp, _, h1, rfl⟩
    exact hQ _ _ _ hp h1
/-- the bad arguments, one after the other -/
theorem law_bads {xs : List D} (hx : ∀ x ∈ xs, ∃ v o, x = .tup [v, o] ∧ Bad v o) {it : E} {ρ0 : Rho} {s0 x1 x2 x3 x4 x5 x6 x7 x8 x9 x10 : Option D} (hρ : ρ0 = [s0, x1, x2, x3, x4, x5, x6, x7, x8, x9, x10, none, none, none]) (hi : evI (callF tbl (k + 8)) it ρ0 st = .ok (.items xs) st) {Q : Fl → Store → Prop}
    (hQ : ∀ x11, Q (.nx [s0, x1, x2, x3, x4, x5, x6, x7, x8, x9, x10, x11, none, none]) st) :
    Wp (evS (callF tbl (k + 8)) (.for_ (.nm 11) it (.seq (.ite (.or_ (.not_ (.call 21 (.cons (.call 20 (.cons (.fnv 15) (.cons (.var 11) .nil))) (.cons (.cst (.str "malformed")) .nil)))) (.not_ (.call 21 (.cons (.call 20 (.cons (.fnv 13) (.cons (.bi (.add false) (.cons (.var 11) (.cons (.tup (.cons (.cst .non) .nil)) .nil))) .nil))) (.cons (.cst (.str "malformed")) .nil))))) (.seq (.ret (.cst (.bl false))) .skip) .skip) .skip)) ρ0 st) Q := by
  refine wp_forS hi (fun i ρ st' => st' = st ∧ ∃ x11, ρ = [s0, x1, x2, x3, x4, x5, x6, x7, x8, x9, x10, x11, none, none]) ⟨rfl, _, hρ⟩ ?_ ?_
  · rintro i x hx' ρ st' ⟨hst, x11, rfl⟩
    subst hst
    obtain ⟨v, o, rfl, hb⟩ := hx x (List.mem_of_getElem? hx')
    obtain ⟨w1, h1⟩ := bad_paper (k := k + 3) (st := st') hb
    obtain ⟨w2, h2⟩ := bad_takes (k := k + 3) (st := st') (p := .non) hb
    have r1 := raised_two h1
    have r2 := raised_three h2
    have ha : biV (.add false) [.tup [v, o], .tup [.non]] st' = .ok (.tup [v, o, .non]) st' := addTT (by simp)
    have hm := israised_call (k := k + 6) (st := st')
    simp only [eT_tup, it_two, it_three, eT_cons, eT_nm, eT_nil, go_ok, List.set_cons_zero, List.set_cons_succ]
    exact wp_seq (wp_iteF (st' := st') (by simp only [eS_seq, eS_skip, eS_ret, eS_ex, eS_asg, eS_ite, eS_raise, eE_call, eE_bi, eE_var, eE_cst, eE_glo, eE_fnv, eE_tup, eE_lst, eE_and, eE_or, eE_not, eE_ite, eE_mth, eE_chain, eE_sl, intP, slT, eA_cons, eA_nil, eT_nm, eT_tup, eT_cons, eT_nil, go_ok, go_exc, go_stuck, gv0, gvS, List.set_cons_zero, List.set_cons_succ, b_add, b_sub, b_mul, b_fdiv, b_mod, b_neg, b_abs, b_lt, b_le, b_gt, b_ge, b_eqI, b_neI, b_max, b_min, asBool_bl, mkTup1, mkTup2, b_idx, ix0, ix1, Bool.false_eq_true, reduceIte, b_isinst, b_len, b_all, b_any, b_tuple, b_list, b_append, b_pop, b_rev, b_int, b_isN, b_isNN, eT_sub, mkL_in, mkL_new, Bool.not_true, Bool.not_false, it_two, it_three, lenL, lenTu, mkLst_nil, mkTup3, isTL, isTT, go_assoc, r1, r2, ha, hm] <;> rfl) (wp_skip (wp_skip ⟨rfl, _, rfl⟩)))
  · rintro ρ st' ⟨hst, x11, rfl⟩
    rw [hst]
    exact hQ _
end
end K82

namespace K82
open PySem PC
theorem rep_of {m : Nat} {x : D} : List.replicate m x = List.replicate m x := rfl
section
variable {k : Nat} {st : Store}
theorem bad_no {v o : D} (hp : plainD v = true) (ht : isTup v = false) : Bad v o := fun k st => by
  refine ⟨"no row", call_exc (d := d_check_recursion) rfl rfl ?_⟩
  show evS (callF tbl (k + 2)) b_check_recursion [some v, some o, none] st = _
  have h := isT_plain (st := st) hp
  rw [ht] at h
  simp only [b_check_recursion, eS_seq, eS_skip, eS_ret, eS_ex, eS_asg, eS_ite, eS_raise, eE_call, eE_bi, eE_var, eE_cst, eE_glo, eE_fnv, eE_tup, eE_lst, eE_and, eE_or, eE_not, eE_ite, eE_mth, eE_chain, eE_sl, intP, slT, eA_cons, eA_nil, eT_nm, eT_tup, eT_cons, eT_nil, go_ok, go_exc, go_stuck, gv0, gvS, List.set_cons_zero, List.set_cons_succ, b_add, b_sub, b_mul, b_fdiv, b_mod, b_neg, b_abs, b_lt, b_le, b_gt, b_ge, b_eqI, b_neI, b_max, b_min, asBool_bl, mkTup1, mkTup2, b_idx, ix0, ix1, Bool.false_eq_true, reduceIte, b_isinst, b_len, b_all, b_any, b_tuple, b_list, b_append, b_pop, b_rev, b_int, b_isN, b_isNN, eT_sub, mkL_in, mkL_new, Bool.not_true, Bool.not_false, it_two, it_three, lenL, lenTu, mkLst_nil, mkTup3, isTL, isTT, go_assoc, h]
/-- from the draws on -/
theorem law_rest {ns : List Int} {n r : Nat} {q c : Nat → Rat} (h : St [] st) (hD : Drawn r n q c) {T : S}
    (hT : .seq T .skip = S.skip ∨ ∃ a b cc, b_law = .seq a (.seq b (.seq cc T))) :
    Wp (evS (callF tbl (k + 8)) T [some (scriptD ns), some (.ref 0), some (.int (r : Nat)), some (.int (n : Nat)), some (.tup (fr n q)), some (.tup (fr r c)), none, none, none, none, none, none, none, none] st) fun f st' => f = .rt (.bl true) := by
  rcases hT with hT | ⟨a0, b0, c0, hT⟩
  · cases hT
  unfold b_law at hT
  injection hT with _ hT
  injection hT with _ hT
  injection hT with _ hT
  subst hT
  obtain ⟨hr, ⟨B, R, hR, hβ⟩, hc⟩ := hD
  have hn1 := hR.n1
  have hn2 := hR.n40
  have hβ' : (r + 1) * ((2 * (r + 1) * B) ^ r * B) < 2 ^ 1000 := Nat.lt_of_lt_of_le hβ (pow_le2 (by omega))
  -- told
  obtain ⟨d, st1, e, hst, hd⟩ := paper_call (k := k) (st := st) hR hr hβ'
  rw [hst] at e
  obtain ⟨w, m, z, rfl, hw, hm, ez, X, ez0, ezb, hXb, hz⟩ := told_small hd hn2 hr hR.B1 hβ
  have hsm : Small (fr m z) := small_fr (b := 890) (by omega) ez0 ezb hXb (by omega) hz
  have hH := told_holds hd
  have hbel : below st.length (.tup [.str w, .tup (fr m z)]) = true := by
    show (true && (belows _ (fr m z) && true)) = true
    rw [fr_below]; rfl
  have ht := told_two e hbel
  refine wp_seq (wp_asgP (d := .tup [.str "told", .tup [.str w, .tup (fr m z)]]) (by simp only [eS_seq, eS_skip, eS_ret, eS_ex, eS_asg, eS_ite, eS_raise, eE_call, eE_bi, eE_var, eE_cst, eE_glo, eE_fnv, eE_tup, eE_lst, eE_and, eE_or, eE_not, eE_ite, eE_mth, eE_chain, eE_sl, intP, slT, eA_cons, eA_nil, eT_nm, eT_tup, eT_cons, eT_nil, go_ok, go_exc, go_stuck, gv0, gvS, List.set_cons_zero, List.set_cons_succ, b_add, b_sub, b_mul, b_fdiv, b_mod, b_neg, b_abs, b_lt, b_le, b_gt, b_ge, b_eqI, b_neI, b_max, b_min, asBool_bl, mkTup1, mkTup2, b_idx, ix0, ix1, Bool.false_eq_true, reduceIte, b_isinst, b_len, b_all, b_any, b_tuple, b_list, b_append, b_pop, b_rev, b_int, b_isN, b_isNN, eT_sub, mkL_in, mkL_new, Bool.not_true, Bool.not_false, it_two, it_three, lenL, lenTu, mkLst_nil, mkTup3, isTL, isTT, go_assoc, ht] <;> rfl) ?_)
  have hP : PapOk (.tup [.str w, .tup (fr m z)]) := pap_two rfl hw hsm.good
  have hlh := lholds_call (k := k + 1) (st := st) hR hr hP
  rw [hH] at hlh
  obtain ⟨d2, st2, e2, hst2, b, rfl, hb⟩ := solvable_call (k := k + 3) (st := st) hR hr hβ'
  rw [hst2] at e2
  obtain ⟨w', b', hd', hcase⟩ := told_solv hd
  have hww : w = w' := by cases hd'; rfl
  subst hww
  have hwb : w = (if b then ("recursion" : Str) else ("against" : Str)) := by
    rcases hcase with ⟨rfl, hs⟩ | ⟨rfl, hs⟩
    · rw [hb.mpr hs]; rfl
    · have : b = false := by
        cases b with
        | false => rfl
        | true => exact absurd (hb.mp rfl) hs
      rw [this]; rfl
  have eqw : biV .ne [.str w, .str (if b then ("recursion" : Str) else ("against" : Str))] st = .ok (.bl false) st := by
    rw [ne_str hw (by rw [← hwb]; exact hw), ← hwb, beq_self_eq_true]; rfl
  have hite : ∀ st', (if b = true then Res.ok (D.str "recursion") st' else Res.ok (D.str "against") st') = Res.ok (D.str (if b then ("recursion" : Str) else ("against" : Str))) st' := fun st' => by
    cases b <;> rfl
  have etold : biV .ne [.str "told", .str "told"] st = .ok (.bl false) st := by
    rw [ne_str (by decide +kernel) (by decide +kernel), beq_self_eq_true]; rfl
  refine wp_seq (wp_iteF (st' := st) (by simp only [eS_seq, eS_skip, eS_ret, eS_ex, eS_asg, eS_ite, eS_raise, eE_call, eE_bi, eE_var, eE_cst, eE_glo, eE_fnv, eE_tup, eE_lst, eE_and, eE_or, eE_not, eE_ite, eE_mth, eE_chain, eE_sl, intP, slT, eA_cons, eA_nil, eT_nm, eT_tup, eT_cons, eT_nil, go_ok, go_exc, go_stuck, gv0, gvS, List.set_cons_zero, List.set_cons_succ, b_add, b_sub, b_mul, b_fdiv, b_mod, b_neg, b_abs, b_lt, b_le, b_gt, b_ge, b_eqI, b_neI, b_max, b_min, asBool_bl, mkTup1, mkTup2, b_idx, ix0, ix1, Bool.false_eq_true, reduceIte, b_isinst, b_len, b_all, b_any, b_tuple, b_list, b_append, b_pop, b_rev, b_int, b_isN, b_isNN, eT_sub, mkL_in, mkL_new, Bool.not_true, Bool.not_false, it_two, it_three, lenL, lenTu, mkLst_nil, mkTup3, isTL, isTT, go_assoc, etold, hlh, e2, hite, eqw] <;> rfl) (wp_skip ?_))
  have hmax : max2 ((n : Int) - (r : Int)) 0 = ((n - r : Nat) : Int) := by unfold max2; split <;> omega
  refine wp_seq (wp_asgP (d := .int ((n - r : Nat) : Int)) (by simp only [eS_seq, eS_skip, eS_ret, eS_ex, eS_asg, eS_ite, eS_raise, eE_call, eE_bi, eE_var, eE_cst, eE_glo, eE_fnv, eE_tup, eE_lst, eE_and, eE_or, eE_not, eE_ite, eE_mth, eE_chain, eE_sl, intP, slT, eA_cons, eA_nil, eT_nm, eT_tup, eT_cons, eT_nil, go_ok, go_exc, go_stuck, gv0, gvS, List.set_cons_zero, List.set_cons_succ, b_add, b_sub, b_mul, b_fdiv, b_mod, b_neg, b_abs, b_lt, b_le, b_gt, b_ge, b_eqI, b_neI, b_max, b_min, asBool_bl, mkTup1, mkTup2, b_idx, ix0, ix1, Bool.false_eq_true, reduceIte, b_isinst, b_len, b_all, b_any, b_tuple, b_list, b_append, b_pop, b_rev, b_int, b_isN, b_isNN, eT_sub, mkL_in, mkL_new, Bool.not_true, Bool.not_false, it_two, it_three, lenL, lenTu, mkLst_nil, mkTup3, isTL, isTT, go_assoc, hmax] <;> rfl) ?_)
  -- papers
  have m1 : biV (.mul false) [.tup [.tup [.int 0, .int 1]], .int (r : Nat)] st = .ok (.tup (List.replicate r (encR 0))) st := by rw [b_mulV, mulTN (by omega)]; rfl
  have m2 : biV (.mul false) [.tup [.tup [.int 0, .int 1]], .int ((n - r : Nat) : Int)] st = .ok (.tup (List.replicate (n - r) (encR 0))) st := by rw [b_mulV, mulTN (by omega)]; rfl
  have m3 : biV (.mul false) [.tup [.tup [.int 1, .int 1]], .int ((n - r : Nat) : Int)] st = .ok (.tup (List.replicate (n - r) (encR 1))) st := by rw [b_mulV, mulTN (by omega)]; rfl
  have k1 : ∀ (x1 x2 x3 x4 x5 x6 x7 x8 x9 x10 x11 : D), mkLst true [x1, x2, x3, x4, x5, x6, x7, x8, x9, x10, x11] st = .ok (.ref 1) (st ++ [.lst [x1, x2, x3, x4, x5, x6, x7, x8, x9, x10, x11]]) := fun _ _ _ _ _ _ _ _ _ _ _ => by
    rw [mkLst_new (by simp), h.len]; rfl
  refine wp_seq (wp_asg (d := .ref 1) (st' := st ++ [.lst [.tup [.str w, .tup (fr m z)], .tup [.str "recursion", .tup (fr r c)], .tup [.str "recursion", .tup (List.replicate r (encR 0))], .tup [.str "against", .tup (List.replicate (n - r) (encR 0))], .tup [.str "against", .tup (List.replicate (n - r) (encR 1))], .tup [.str "against", .tup []], .tup [.str "recursion", .tup []], .non, .int 5, .tup [], .str "against"]]) (by simp only [eS_seq, eS_skip, eS_ret, eS_ex, eS_asg, eS_ite, eS_raise, eE_call, eE_bi, eE_var, eE_cst, eE_glo, eE_fnv, eE_tup, eE_lst, eE_and, eE_or, eE_not, eE_ite, eE_mth, eE_chain, eE_sl, intP, slT, eA_cons, eA_nil, eT_nm, eT_tup, eT_cons, eT_nil, go_ok, go_exc, go_stuck, gv0, gvS, List.set_cons_zero, List.set_cons_succ, b_add, b_sub, b_mul, b_fdiv, b_mod, b_neg, b_abs, b_lt, b_le, b_gt, b_ge, b_eqI, b_neI, b_max, b_min, asBool_bl, mkTup1, mkTup2, b_idx, ix0, ix1, Bool.false_eq_true, reduceIte, b_isinst, b_len, b_all, b_any, b_tuple, b_list, b_append, b_pop, b_rev, b_int, b_isN, b_isNN, eT_sub, mkL_in, mkL_new, Bool.not_true, Bool.not_false, it_two, it_three, lenL, lenTu, mkLst_nil, mkTup3, isTL, isTT, go_assoc, m1, m2, m3, mkTup0, k1] <;> rfl) ?_)
  generalize hL1 : [D.tup [.str w, .tup (fr m z)], .tup [.str "recursion", .tup (fr r c)], .tup [.str "recursion", .tup (List.replicate r (encR 0))], .tup [.str "against", .tup (List.replicate (n - r) (encR 0))], .tup [.str "against", .tup (List.replicate (n - r) (encR 1))], .tup [.str "against", .tup []], .tup [.str "recursion", .tup []], .non, .int 5, .tup [], .str "against"] = L1
  have hS1 : St [.lst L1] (st ++ [.lst L1]) := h.new
  have hsN : Small [] := ⟨by decide, 1, 1, by decide, Nat.one_lt_two_pow (by decide), Nat.one_lt_two_pow (by decide), fun x hx => nomatch hx⟩
  have hL1ok : ∀ p ∈ L1, PapOk p := by
    have sR : PyData.strOk "recursion" = true := by decide +kernel
    have sA : PyData.strOk "against" = true := by decide +kernel
    intro p hp
    rw [← hL1] at hp
    simp only [List.mem_cons, List.not_mem_nil, or_false] at hp
    rcases hp with rfl | rfl | rfl | rfl | rfl | rfl | rfl | rfl | rfl | rfl | rfl
    · exact hP
    · exact pap_two rfl sR (small_fr (b := 890) (e := 12) (X := 72) (by omega) (by decide) (Nat.lt_of_lt_of_le (by decide : (12 : Int).natAbs < 2 ^ 4) (pow_le2 (by omega))) (Nat.lt_of_lt_of_le (by decide : 72 < 2 ^ 7) (pow_le2 (by omega))) (by omega) hc).good
    · exact pap_two rfl sR (small_rep (by omega) (.inl rfl)).good
    · exact pap_two rfl sA (small_rep (by omega) (.inl rfl)).good
    · exact pap_two rfl sA (small_rep (by omega) (.inr rfl)).good
    · exact pap_two rfl sA hsN.good
    · exact pap_two rfl sR hsN.good
    · exact pap_other rfl fun _ _ e => by cases e
    · exact pap_other rfl fun _ _ e => by cases e
    · exact pap_other rfl fun _ _ e => by cases e
    · exact pap_other rfl fun _ _ e => by cases e
  have hL1l : L1.length = 11 := by rw [← hL1]; rfl
  have li1 : ∀ (xs : List D) st, listV false (.tup xs) st = .ok (.lst xs) st := fun _ _ => rfl
  have k2 : ∀ (x1 x2 x3 x4 x5 : D) st, mkLst false [x1, x2, x3, x4, x5] st = .ok (.lst [x1, x2, x3, x4, x5]) st := fun _ _ _ _ _ _ => rfl
  have a1 : ∀ st, biV (.add false) [.tup [.str w, .tup (fr m z)], .tup [.int 0]] st = .ok (.tup [.str w, .tup (fr m z), .int 0]) st := fun st => addTT (by simp)
  have r1 : ∀ (xs : List D) st, revV false (.tup xs) st = .ok (.tup xs.reverse) st := fun _ _ => rfl
  generalize hL2 : [D.lst [.str w, .tup (fr m z)], .tup [.str w, .tup (fr m z), .int 0], .tup [.str w], .tup [.str w, .lst (fr m z)], .tup [.str w, .tup (fr m z).reverse]] = L2
  have hL2ok : ∀ p ∈ L2, PapOk p := by
    intro p hp
    rw [← hL2] at hp
    simp only [List.mem_cons, List.not_mem_nil, or_false] at hp
    rcases hp with rfl | rfl | rfl | rfl | rfl
    · exact pap_other rfl fun _ _ e => by cases e
    · exact pap_other rfl fun _ _ e => by cases e
    · exact pap_other rfl fun _ _ e => by cases e
    · exact pap_two rfl hw (rowgood_plain rfl fun _ e => by cases e)
    · exact pap_two rfl hw (hsm.sub (by rw [List.length_reverse, fr_len]; omega) fun y hy => List.mem_reverse.mp hy)
  have hL2l : L2.length = 5 := by rw [← hL2]; rfl
  have kL2 : ∀ st, mkLst false L2 st = .ok (.lst L2) st := fun st => mkLst_in (by omega)
  have g1 := addRL (ys := L2) hS1.get1 (by omega)
  rw [hS1.len] at g1
  have g1 : biV (.add true) [.ref 1, .lst L2] (st ++ [.lst L1]) = .ok (.ref 2) (st ++ [.lst L1] ++ [.lst (L1 ++ L2)]) := g1
  refine wp_seq (wp_asg (d := .ref 2) (st' := st ++ [.lst L1] ++ [.lst (L1 ++ L2)]) (by simp only [eS_seq, eS_skip, eS_ret, eS_ex, eS_asg, eS_ite, eS_raise, eE_call, eE_bi, eE_var, eE_cst, eE_glo, eE_fnv, eE_tup, eE_lst, eE_and, eE_or, eE_not, eE_ite, eE_mth, eE_chain, eE_sl, intP, slT, eA_cons, eA_nil, eT_nm, eT_tup, eT_cons, eT_nil, go_ok, go_exc, go_stuck, gv0, gvS, List.set_cons_zero, List.set_cons_succ, b_add, b_sub, b_mul, b_fdiv, b_mod, b_neg, b_abs, b_lt, b_le, b_gt, b_ge, b_eqI, b_neI, b_max, b_min, asBool_bl, mkTup1, mkTup2, b_idx, ix0, ix1, Bool.false_eq_true, reduceIte, b_isinst, b_len, b_all, b_any, b_tuple, b_list, b_append, b_pop, b_rev, b_int, b_isN, b_isNN, eT_sub, mkL_in, mkL_new, Bool.not_true, Bool.not_false, it_two, it_three, lenL, lenTu, mkLst_nil, mkTup3, isTL, isTT, go_assoc, li1, kL2, a1, r1, hL2, g1] <;> rfl) ?_)
  have hS2 : St [.lst L1, .lst (L1 ++ L2)] (st ++ [.lst L1] ++ [.lst (L1 ++ L2)]) := hS1.new
  generalize hst3 : st ++ [.lst L1] ++ [.lst (L1 ++ L2)] = st3 at *
  have k3 : ∀ (x1 x2 : D) st, mkLst false [x1, x2] st = .ok (.lst [x1, x2]) st := fun _ _ _ => rfl
  have a2 : ∀ st, biV (.add false) [.tup (fr m z), .tup [.tup [.int 0, .int 1]]] st = .ok (.tup (fr m z ++ [.tup [.int 0, .int 1]])) st := fun st => addTT (by rw [fr_len]; simp only [List.length_cons, List.length_nil]; omega)
  generalize hL3 : [D.tup [.str w, .tup (fr m z ++ [.tup [.int 0, .int 1]])], .tup [.str w, .tup (fr m z).dropLast]] = L3
  have hL3ok : ∀ p ∈ L3, PapOk p := by
    intro p hp
    rw [← hL3] at hp
    simp only [List.mem_cons, List.not_mem_nil, or_false] at hp
    rcases hp with rfl | rfl
    · exact pap_two rfl hw (small_more hm ez0 ezb hXb hz).good
    · exact pap_two rfl hw (hsm.sub (by rw [List.length_dropLast, fr_len]; omega) fun y hy => (List.dropLast_sublist _).subset hy)
  have hL3l : L3.length = 2 := by rw [← hL3]; rfl
  have kL3 : ∀ st, mkLst false L3 st = .ok (.lst L3) st := fun st => mkLst_in (by omega)
  have g2 := addRL (ys := L3) hS2.get2 (by rw [List.length_append]; omega)
  rw [hS2.len] at g2
  have g2 : biV (.add true) [.ref 2, .lst L3] st3 = .ok (.ref 3) (st3 ++ [.lst (L1 ++ L2 ++ L3)]) := g2
  refine wp_seq (wp_asg (d := .ref 3) (st' := st3 ++ [.lst (L1 ++ L2 ++ L3)]) (by simp only [eS_seq, eS_skip, eS_ret, eS_ex, eS_asg, eS_ite, eS_raise, eE_call, eE_bi, eE_var, eE_cst, eE_glo, eE_fnv, eE_tup, eE_lst, eE_and, eE_or, eE_not, eE_ite, eE_mth, eE_chain, eE_sl, intP, slT, eA_cons, eA_nil, eT_nm, eT_tup, eT_cons, eT_nil, go_ok, go_exc, go_stuck, gv0, gvS, List.set_cons_zero, List.set_cons_succ, b_add, b_sub, b_mul, b_fdiv, b_mod, b_neg, b_abs, b_lt, b_le, b_gt, b_ge, b_eqI, b_neI, b_max, b_min, asBool_bl, mkTup1, mkTup2, b_idx, ix0, ix1, Bool.false_eq_true, reduceIte, b_isinst, b_len, b_all, b_any, b_tuple, b_list, b_append, b_pop, b_rev, b_int, b_isN, b_isNN, eT_sub, mkL_in, mkL_new, Bool.not_true, Bool.not_false, it_two, it_three, lenL, lenTu, mkLst_nil, mkTup3, isTL, isTT, go_assoc, kL3, a2, eE_slFT, cut_last, hL3, g2] <;> rfl) ?_)
  have hS3 : St [.lst L1, .lst (L1 ++ L2), .lst (L1 ++ L2 ++ L3)] (st3 ++ [.lst (L1 ++ L2 ++ L3)]) := hS2.new
  generalize hst4 : st3 ++ [.lst (L1 ++ L2 ++ L3)] = st4 at *
  have hil := isLst_ref hS3.get3
  have hap := append_ref (x := .tup [.str w, .tup (fr m fun c => z c * 2)]) hS3.get3 (by rw [List.length_append, List.length_append]; omega)
  have hmul2 : ∀ cc, cc < m → callF tbl (k + 8) 26 [encR (z cc), .tup [.int 2, .int 1]] st4 = .ok (encR (z cc * 2)) st4 := fun cc hcc => lmul_sz (k := k + 6) (p := z cc) (q := 2) (ov_sz (b := 890) (hz cc hcc) ez0 hXb ezb) (a := 890) (b := 2) ⟨by decide, by decide⟩ (by omega)
  refine wp_seq (wp_ex (d := .non) (st' := st4.set 3 (.lst (L1 ++ L2 ++ L3 ++ [.tup [.str w, .tup (fr m fun c => z c * 2)]]))) (Wp.eq ?_) ?_)
  · simp only [eS_seq, eS_skip, eS_ret, eS_ex, eS_asg, eS_ite, eS_raise, eE_call, eE_bi, eE_var, eE_cst, eE_glo, eE_fnv, eE_tup, eE_lst, eE_and, eE_or, eE_not, eE_ite, eE_mth, eE_chain, eE_sl, intP, slT, eA_cons, eA_nil, eT_nm, eT_tup, eT_cons, eT_nil, go_ok, go_exc, go_stuck, gv0, gvS, List.set_cons_zero, List.set_cons_succ, b_add, b_sub, b_mul, b_fdiv, b_mod, b_neg, b_abs, b_lt, b_le, b_gt, b_ge, b_eqI, b_neI, b_max, b_min, asBool_bl, mkTup1, mkTup2, b_idx, ix0, ix1, Bool.false_eq_true, reduceIte, b_isinst, b_len, b_all, b_any, b_tuple, b_list, b_append, b_pop, b_rev, b_int, b_isN, b_isNN, eT_sub, mkL_in, mkL_new, Bool.not_true, Bool.not_false, it_two, it_three, lenL, lenTu, mkLst_nil, mkTup3, isTL, isTT, go_assoc, hil]
    refine Wp.on (comp_pure (zs := List.range m) (e := fun c => encR (z c)) (r := fun c => encR (z c * 2)) rfl (fun cc hcc => ?_) (by rw [List.length_range]; omega)) ?_
    · simp only [eS_seq, eS_skip, eS_ret, eS_ex, eS_asg, eS_ite, eS_raise, eE_call, eE_bi, eE_var, eE_cst, eE_glo, eE_fnv, eE_tup, eE_lst, eE_and, eE_or, eE_not, eE_ite, eE_mth, eE_chain, eE_sl, intP, slT, eA_cons, eA_nil, eT_nm, eT_tup, eT_cons, eT_nil, go_ok, go_exc, go_stuck, gv0, gvS, List.set_cons_zero, List.set_cons_succ, b_add, b_sub, b_mul, b_fdiv, b_mod, b_neg, b_abs, b_lt, b_le, b_gt, b_ge, b_eqI, b_neI, b_max, b_min, asBool_bl, mkTup1, mkTup2, b_idx, ix0, ix1, Bool.false_eq_true, reduceIte, b_isinst, b_len, b_all, b_any, b_tuple, b_list, b_append, b_pop, b_rev, b_int, b_isN, b_isNN, eT_sub, mkL_in, mkL_new, Bool.not_true, Bool.not_false, it_two, it_three, lenL, lenTu, mkLst_nil, mkTup3, isTL, isTT, go_assoc, hmul2 cc (List.mem_range.mp hcc)]
    · have hl : ∀ st, tupleV (.lst (fr m fun c => z c * 2)) st = .ok (.tup (fr m fun c => z c * 2)) st := fun _ => rfl
      unfold fr at hl hap
      simp only [eS_seq, eS_skip, eS_ret, eS_ex, eS_asg, eS_ite, eS_raise, eE_call, eE_bi, eE_var, eE_cst, eE_glo, eE_fnv, eE_tup, eE_lst, eE_and, eE_or, eE_not, eE_ite, eE_mth, eE_chain, eE_sl, intP, slT, eA_cons, eA_nil, eT_nm, eT_tup, eT_cons, eT_nil, go_ok, go_exc, go_stuck, gv0, gvS, List.set_cons_zero, List.set_cons_succ, b_add, b_sub, b_mul, b_fdiv, b_mod, b_neg, b_abs, b_lt, b_le, b_gt, b_ge, b_eqI, b_neI, b_max, b_min, asBool_bl, mkTup1, mkTup2, b_idx, ix0, ix1, Bool.false_eq_true, reduceIte, b_isinst, b_len, b_all, b_any, b_tuple, b_list, b_append, b_pop, b_rev, b_int, b_isN, b_isNN, eT_sub, mkL_in, mkL_new, Bool.not_true, Bool.not_false, it_two, it_three, lenL, lenTu, mkLst_nil, mkTup3, isTL, isTT, go_assoc, hl, hap]
      exact Wp.ok ⟨rfl, rfl⟩
  have hS4 : St [.lst L1, .lst (L1 ++ L2), .lst (L1 ++ L2 ++ L3 ++ [.tup [.str w, .tup (fr m fun c => z c * 2)]])] (st4.set 3 (.lst (L1 ++ L2 ++ L3 ++ [.tup [.str w, .tup (fr m fun c => z c * 2)]]))) := hS3.set (rest := [.lst L1, .lst (L1 ++ L2)])
  have hok4 : ∀ p ∈ L1 ++ L2 ++ L3 ++ [.tup [.str w, .tup (fr m fun c => z c * 2)]], PapOk p := by
    intro p hp
    simp only [List.mem_append, List.mem_singleton] at hp
    rcases hp with ((hp | hp) | hp) | rfl
    · exact hL1ok p hp
    · exact hL2ok p hp
    · exact hL3ok p hp
    · exact pap_two rfl hw (small_sc hm ez0 ezb hXb hz).good
  refine wp_seq (law_bend hok4 (by rw [List.length_append, List.length_append, List.length_append]; simp only [List.length_cons, List.length_nil]; omega) hw hsm hS4 ?_)
  intro x9 ps' st5 hps' hS5
  refine wp_seq (law_judge hR hr hps' hS5 ?_)
  intro x10
  -- bad arguments
  have m4 : biV (.mul false) [.tup [.tup [.int 1, .int 1]], .int 41] st5 = .ok (.tup (List.replicate 41 (encR 1))) st5 := by
    have := mulTN (c := false) (x := .tup [.int 1, .int 1]) (n := 41) (st := st5) (by omega)
    exact this
  have k4 : ∀ (x1 x2 x3 x4 x5 x6 x7 x8 x9 x10 x11 x12 : D) st, mkLst false [x1, x2, x3, x4, x5, x6, x7, x8, x9, x10, x11, x12] st = .ok (.lst [x1, x2, x3, x4, x5, x6, x7, x8, x9, x10, x11, x12]) st := fun _ _ _ _ _ _ _ _ _ _ _ _ _ => rfl
  generalize hbads : [D.tup [.tup [], .int 1], .tup [.non, .int 1], .tup [.int 5, .int 1], .tup [.lst (fr n q), .int 1], .tup [.tup [.tup [.int 2, .int 4]], .int 1], .tup [.tup [.int 1], .int 1], .tup [.tup (List.replicate 41 (encR 1)), .int 1], .tup [.tup (fr n q), .int (-1)], .tup [.tup (fr n q), .int 21], .tup [.tup (fr n q), .non], .tup [.tup (fr n q), .bl true], .tup [.tup (fr n q), .str "1"]] = bads
  have hbad : ∀ x ∈ bads, ∃ v o, x = .tup [v, o] ∧ Bad v o := by
    intro x hx
    rw [← hbads] at hx
    simp only [List.mem_cons, List.not_mem_nil, or_false] at hx
    rcases hx with rfl | rfl | rfl | rfl | rfl | rfl | rfl | rfl | rfl | rfl | rfl | rfl
    · exact ⟨_, _, rfl, bad_row (fun x hx => nomatch hx) (by decide) (fun h => absurd h.1 (by decide))⟩
    · exact ⟨_, _, rfl, bad_no rfl rfl⟩
    · exact ⟨_, _, rfl, bad_no rfl rfl⟩
    · exact ⟨_, _, rfl, bad_no rfl rfl⟩
    · refine ⟨_, _, rfl, bad_row (fun x hx => ?_) (by decide) (fun _ => by decide)⟩
      rw [List.mem_singleton.mp hx]
      exact ⟨rfl, rfl, fun d e => by cases e; show (4 : Int).natAbs < 2 ^ 100000; exact Nat.lt_of_lt_of_le (by decide : (4 : Int).natAbs < 2 ^ 3) (pow_le2 (by omega))⟩
    · refine ⟨_, _, rfl, bad_row (fun x hx => ?_) (by decide) (fun _ => by decide)⟩
      rw [List.mem_singleton.mp hx]
      trivial
    · refine ⟨_, _, rfl, bad_row (fun x hx => ?_) (by rw [List.length_replicate]; decide) (fun h => ?_)⟩
      · rw [(List.mem_replicate.mp hx).2]
        exact ask_enc (by show 1 < 2 ^ 100000; exact Nat.one_lt_two_pow (by decide))
      · rw [List.length_replicate] at h; omega
    · exact ⟨_, _, rfl, bad_order hR rfl fun i e => by cases e; exact .inl (by decide)⟩
    · exact ⟨_, _, rfl, bad_order hR rfl fun i e => by cases e; exact .inr (by decide)⟩
    · exact ⟨_, _, rfl, bad_order hR rfl fun i e => by cases e⟩
    · exact ⟨_, _, rfl, bad_order hR rfl fun i e => by cases e⟩
    · exact ⟨_, _, rfl, bad_order hR rfl fun i e => by cases e⟩
  have hbl : bads.length = 12 := by rw [← hbads]; rfl
  have kB : ∀ st, mkLst false bads st = .ok (.lst bads) st := fun st => mkLst_in (by omega)
  refine wp_seq (law_bads hbad rfl ?_ ?_)
  · simp only [iE_sq, eS_seq, eS_skip, eS_ret, eS_ex, eS_asg, eS_ite, eS_raise, eE_call, eE_bi, eE_var, eE_cst, eE_glo, eE_fnv, eE_tup, eE_lst, eE_and, eE_or, eE_not, eE_ite, eE_mth, eE_chain, eE_sl, intP, slT, eA_cons, eA_nil, eT_nm, eT_tup, eT_cons, eT_nil, go_ok, go_exc, go_stuck, gv0, gvS, List.set_cons_zero, List.set_cons_succ, b_add, b_sub, b_mul, b_fdiv, b_mod, b_neg, b_abs, b_lt, b_le, b_gt, b_ge, b_eqI, b_neI, b_max, b_min, asBool_bl, mkTup1, mkTup2, b_idx, ix0, ix1, Bool.false_eq_true, reduceIte, b_isinst, b_len, b_all, b_any, b_tuple, b_list, b_append, b_pop, b_rev, b_int, b_isN, b_isNN, eT_sub, mkL_in, mkL_new, Bool.not_true, Bool.not_false, it_two, it_three, lenL, lenTu, mkLst_nil, mkTup3, isTL, isTT, go_assoc, mkTup0, li1, m4, kB, hbads, sqL]
  · intro x11
    exact wp_seq (wp_ret (st' := st5) (by simp only [eS_seq, eS_skip, eS_ret, eS_ex, eS_asg, eS_ite, eS_raise, eE_call, eE_bi, eE_var, eE_cst, eE_glo, eE_fnv, eE_tup, eE_lst, eE_and, eE_or, eE_not, eE_ite, eE_mth, eE_chain, eE_sl, intP, slT, eA_cons, eA_nil, eT_nm, eT_tup, eT_cons, eT_nil, go_ok, go_exc, go_stuck, gv0, gvS, List.set_cons_zero, List.set_cons_succ, b_add, b_sub, b_mul, b_fdiv, b_mod, b_neg, b_abs, b_lt, b_le, b_gt, b_ge, b_eqI, b_neI, b_max, b_min, asBool_bl, mkTup1, mkTup2, b_idx, ix0, ix1, Bool.false_eq_true, reduceIte, b_isinst, b_len, b_all, b_any, b_tuple, b_list, b_append, b_pop, b_rev, b_int, b_isN, b_isNN, eT_sub, mkL_in, mkL_new, Bool.not_true, Bool.not_false, it_two, it_three, lenL, lenTu, mkLst_nil, mkTup3, isTL, isTT, go_assoc] <;> rfl) rfl)
end
theorem law_true {ns : List Int} : callF tbl 200 i_law [scriptD ns] [] = .ok (.bl true) [] := by
  refine Wp.eq (call_wp (k := 199) (d := d_law) rfl rfl rfl ?_)
  show Wp (evS (callF tbl (191 + 8)) b_law [some (scriptD ns), none, none, none, none, none, none, none, none, none, none, none, none, none] []) _
  have fin : ∀ st', ∃ r, Fl.rt (D.bl true) = .rt r ∧ Wp (leave false [] r st') fun b st' => b = .bl true ∧ st' = [] := fun st' => ⟨_, rfl, by
    have := leave_wp (st0 := []) (r := st') (d := .bl true) (Q := fun b st' => b = .bl true ∧ st' = []) rfl (by simp [sz]) ⟨rfl, rfl⟩
    exact this⟩
  have hT := @law_rest
  unfold b_law
  refine wp_seq (wp_asgW ?_)
  refine Wp.mono (Q := fun d st' => d = .ref 0 ∧ St [] st') ?_ ?_
  · simp only [eS_seq, eS_skip, eS_ret, eS_ex, eS_asg, eS_ite, eS_raise, eE_call, eE_bi, eE_var, eE_cst, eE_glo, eE_fnv, eE_tup, eE_lst, eE_and, eE_or, eE_not, eE_ite, eE_mth, eE_chain, eE_sl, intP, slT, eA_cons, eA_nil, eT_nm, eT_tup, eT_cons, eT_nil, go_ok, go_exc, go_stuck, gv0, gvS, List.set_cons_zero, List.set_cons_succ, b_add, b_sub, b_mul, b_fdiv, b_mod, b_neg, b_abs, b_lt, b_le, b_gt, b_ge, b_eqI, b_neI, b_max, b_min, asBool_bl, mkTup1, mkTup2, b_idx, ix0, ix1, Bool.false_eq_true, reduceIte, b_isinst, b_len, b_all, b_any, b_tuple, b_list, b_append, b_pop, b_rev, b_int, b_isN, b_isNN, eT_sub, mkL_in, mkL_new, Bool.not_true, Bool.not_false, it_two, it_three, lenL, lenTu, mkLst_nil, mkTup3, isTL, isTT, go_assoc]
    exact state_wp (k := 198)
  rintro d st1 ⟨rfl, h1⟩
  refine wp_seq (wp_asgTW ?_)
  refine Wp.mono (Q := fun d st' => St [] st' ∧ ∃ r n : Nat, r < 7 ∧ 1 ≤ n ∧ n ≤ 12 ∧ d = .tup [.int (r : Nat), .int (n : Nat)]) ?_ ?_
  · simp only [eS_seq, eS_skip, eS_ret, eS_ex, eS_asg, eS_ite, eS_raise, eE_call, eE_bi, eE_var, eE_cst, eE_glo, eE_fnv, eE_tup, eE_lst, eE_and, eE_or, eE_not, eE_ite, eE_mth, eE_chain, eE_sl, intP, slT, eA_cons, eA_nil, eT_nm, eT_tup, eT_cons, eT_nil, go_ok, go_exc, go_stuck, gv0, gvS, List.set_cons_zero, List.set_cons_succ, b_add, b_sub, b_mul, b_fdiv, b_mod, b_neg, b_abs, b_lt, b_le, b_gt, b_ge, b_eqI, b_neI, b_max, b_min, asBool_bl, mkTup1, mkTup2, b_idx, ix0, ix1, Bool.false_eq_true, reduceIte, b_isinst, b_len, b_all, b_any, b_tuple, b_list, b_append, b_pop, b_rev, b_int, b_isN, b_isNN, eT_sub, mkL_in, mkL_new, Bool.not_true, Bool.not_false, it_two, it_three, lenL, lenTu, mkLst_nil, mkTup3, isTL, isTT, go_assoc]
    refine Wp.by_ (take_wp (k := 198) (m := 7) h1 (by decide) (by decide)) fun d st2 ⟨h2, v, hv, e⟩ => ?_
    subst e
    try simp only [eS_seq, eS_skip, eS_ret, eS_ex, eS_asg, eS_ite, eS_raise, eE_call, eE_bi, eE_var, eE_cst, eE_glo, eE_fnv, eE_tup, eE_lst, eE_and, eE_or, eE_not, eE_ite, eE_mth, eE_chain, eE_sl, intP, slT, eA_cons, eA_nil, eT_nm, eT_tup, eT_cons, eT_nil, go_ok, go_exc, go_stuck, gv0, gvS, List.set_cons_zero, List.set_cons_succ, b_add, b_sub, b_mul, b_fdiv, b_mod, b_neg, b_abs, b_lt, b_le, b_gt, b_ge, b_eqI, b_neI, b_max, b_min, asBool_bl, mkTup1, mkTup2, b_idx, ix0, ix1, Bool.false_eq_true, reduceIte, b_isinst, b_len, b_all, b_any, b_tuple, b_list, b_append, b_pop, b_rev, b_int, b_isN, b_isNN, eT_sub, mkL_in, mkL_new, Bool.not_true, Bool.not_false, it_two, it_three, lenL, lenTu, mkLst_nil, mkTup3, isTL, isTT, go_assoc]
    refine Wp.by_ (take_wp (k := 198) (m := 12) h2 (by decide) (by decide)) fun d st3 ⟨h3, w, hw, e⟩ => ?_
    subst e
    simp only [eS_seq, eS_skip, eS_ret, eS_ex, eS_asg, eS_ite, eS_raise, eE_call, eE_bi, eE_var, eE_cst, eE_glo, eE_fnv, eE_tup, eE_lst, eE_and, eE_or, eE_not, eE_ite, eE_mth, eE_chain, eE_sl, intP, slT, eA_cons, eA_nil, eT_nm, eT_tup, eT_cons, eT_nil, go_ok, go_exc, go_stuck, gv0, gvS, List.set_cons_zero, List.set_cons_succ, b_add, b_sub, b_mul, b_fdiv, b_mod, b_neg, b_abs, b_lt, b_le, b_gt, b_ge, b_eqI, b_neI, b_max, b_min, asBool_bl, mkTup1, mkTup2, b_idx, ix0, ix1, Bool.false_eq_true, reduceIte, b_isinst, b_len, b_all, b_any, b_tuple, b_list, b_append, b_pop, b_rev, b_int, b_isN, b_isNN, eT_sub, mkL_in, mkL_new, Bool.not_true, Bool.not_false, it_two, it_three, lenL, lenTu, mkLst_nil, mkTup3, isTL, isTT, go_assoc]
    exact Wp.ok ⟨h3, v, 1 + w, hv, by omega, by omega, by rw [Int.natCast_add]; rfl⟩
  rintro d st2 ⟨h2, r, n, hr, hn1, hn2, rfl⟩
  refine Wp.of (a := [some (scriptD ns), some (.ref 0), some (.int (r : Nat)), some (.int (n : Nat)), none, none, none, none, none, none, none, none, none, none]) (st := st2) (by simp only [eS_seq, eS_skip, eS_ret, eS_ex, eS_asg, eS_ite, eS_raise, eE_call, eE_bi, eE_var, eE_cst, eE_glo, eE_fnv, eE_tup, eE_lst, eE_and, eE_or, eE_not, eE_ite, eE_mth, eE_chain, eE_sl, intP, slT, eA_cons, eA_nil, eT_nm, eT_tup, eT_cons, eT_nil, go_ok, go_exc, go_stuck, gv0, gvS, List.set_cons_zero, List.set_cons_succ, b_add, b_sub, b_mul, b_fdiv, b_mod, b_neg, b_abs, b_lt, b_le, b_gt, b_ge, b_eqI, b_neI, b_max, b_min, asBool_bl, mkTup1, mkTup2, b_idx, ix0, ix1, Bool.false_eq_true, reduceIte, b_isinst, b_len, b_all, b_any, b_tuple, b_list, b_append, b_pop, b_rev, b_int, b_isN, b_isNN, eT_sub, mkL_in, mkL_new, Bool.not_true, Bool.not_false, it_two, it_three, lenL, lenTu, mkLst_nil, mkTup3, isTL, isTT, go_assoc] <;> rfl) ?_
  refine wp_seq (law_draw (k := 194) (fun r n q c st3 h3 hD => ?_) rfl h2 hr hn1 hn2)
  exact (law_rest (k := 191) (ns := ns) h3 hD (.inr ⟨_, _, _, rfl⟩)).mono fun f st' e => by rw [e]; exact fin st'
end K82
set_option maxRecDepth 100000
set_option maxHeartbeats 0
namespace K82
open PySem PC
theorem tab_eq : mo.tab.tbl = tbl := by
  funext i
  match i with
  | 0 | 1 | 2 | 3 | 4 | 5 | 6 | 7 | 8 | 9 | 10 | 11 | 12 | 13 | 14 | 15 | 16 | 17 | 18 | 19 | 20 | 21 | 22 | 23 | 24 | 25 | 26 | 27 | 28 | 29 | 30 | 31 | 32 | 33 | 34 | 35 | 36 | 37 => rfl
  | _ + 38 => rfl
end K82
theorem PySem.Challenge.cw_momentroads_k82_whole_papers_of_recursio_holds : PySem.Challenge.rw_momentroads_k82_whole_papers_of_recursio.Holds := by
  exact K82.holds fun ns _ _ => by
    rw [K82.tab_eq]
    exact K82.law_true
