import PyProof.Rows.All
import Wide.All
import OpenK.AllK
import Wide.FinOn
import HandS.ForMost
import HandS.SortOrd
import KE.LtData
import HandS.Conv
import HandS.TupAny
import HandS.TupMul
import PyProof.ListStr
import HandS.Deep
import HandS.IsInst
import HandS.More
import HandS.Flow
import KE.KxIndex
import HandS.SortRule
import HandS.TupLe
import HandS.Small
import HandS.SortInts
import HandS.SetKeys
import HandS.Style
import KE.GoesEnum
import HandS.Iter
import HandS.Zip
import KE.GoesMore
import HandS.ExcOwn
import HandS.WordsExc
import HandS.DictComp
import PyProof.SeqIndex
import HandS.ExcInit
import HandS.Nested
import HandS.ExcField
import KE.KExcSuper
import HandS.TryMany
import HandS.Strs
import HandS.SetFor
import KE.KWithOwn
import PySem.Challenge.RW_allfearsome_k01_words_lexicons
set_option Elab.async false
set_option linter.all false
set_option maxRecDepth 100000
/-! K1: own values, own syntax, own evaluator -/
namespace Y
open PySem

/-- values: tuples, frozen lists and frozen dicts by value; mutable objects by number -/
inductive PV where
  | non | bl (b : Bool) | int (i : Int) | str (x : Str) | tup (l : List PV) | lst (l : List PV) | dct (ks vs : List PV) | ref (n : Nat) | scr (l : List PV)
  deriving Inhabited

mutual
def decPV : (a b : PV) → Decidable (a = b)
  | .non, .non => Decidable.isTrue rfl
  | .bl a, .bl b => if h : a = b then Decidable.isTrue (by rw [h]) else Decidable.isFalse (by intro e; injection e with e; exact h e)
  | .int a, .int b => if h : a = b then Decidable.isTrue (by rw [h]) else Decidable.isFalse (by intro e; injection e with e; exact h e)
  | .str a, .str b => if h : a = b then Decidable.isTrue (by rw [h]) else Decidable.isFalse (by intro e; injection e with e; exact h e)
  | .ref a, .ref b => if h : a = b then Decidable.isTrue (by rw [h]) else Decidable.isFalse (by intro e; injection e with e; exact h e)
  | .tup a, .tup b => match decPVs a b with
    | Decidable.isTrue h => Decidable.isTrue (by rw [h])
    | Decidable.isFalse h => Decidable.isFalse (by intro e; injection e with e; exact h e)
  | .scr a, .scr b => match decPVs a b with
    | Decidable.isTrue h => Decidable.isTrue (by rw [h])
    | Decidable.isFalse h => Decidable.isFalse (by intro e; injection e with e; exact h e)
  | .lst a, .lst b => match decPVs a b with
    | Decidable.isTrue h => Decidable.isTrue (by rw [h])
    | Decidable.isFalse h => Decidable.isFalse (by intro e; injection e with e; exact h e)
  | .dct a c, .dct b d => match decPVs a b, decPVs c d with
    | Decidable.isTrue h, Decidable.isTrue h' => Decidable.isTrue (by rw [h, h'])
    | Decidable.isFalse h, _ => Decidable.isFalse (by intro e; injection e with e; exact h e)
    | _, Decidable.isFalse h => Decidable.isFalse (by intro e; injection e with _ e; exact h e)
  | .non, .bl _ => Decidable.isFalse (fun e => nomatch e)
  | .non, .int _ => Decidable.isFalse (fun e => nomatch e)
  | .non, .str _ => Decidable.isFalse (fun e => nomatch e)
  | .non, .tup _ => Decidable.isFalse (fun e => nomatch e)
  | .non, .lst _ => Decidable.isFalse (fun e => nomatch e)
  | .non, .dct _ _ => Decidable.isFalse (fun e => nomatch e)
  | .non, .ref _ => Decidable.isFalse (fun e => nomatch e)
  | .bl _, .non => Decidable.isFalse (fun e => nomatch e)
  | .bl _, .int _ => Decidable.isFalse (fun e => nomatch e)
  | .bl _, .str _ => Decidable.isFalse (fun e => nomatch e)
  | .bl _, .tup _ => Decidable.isFalse (fun e => nomatch e)
  | .bl _, .lst _ => Decidable.isFalse (fun e => nomatch e)
  | .bl _, .dct _ _ => Decidable.isFalse (fun e => nomatch e)
  | .bl _, .ref _ => Decidable.isFalse (fun e => nomatch e)
  | .int _, .non => Decidable.isFalse (fun e => nomatch e)
  | .int _, .bl _ => Decidable.isFalse (fun e => nomatch e)
  | .int _, .str _ => Decidable.isFalse (fun e => nomatch e)
  | .int _, .tup _ => Decidable.isFalse (fun e => nomatch e)
  | .int _, .lst _ => Decidable.isFalse (fun e => nomatch e)
  | .int _, .dct _ _ => Decidable.isFalse (fun e => nomatch e)
  | .int _, .ref _ => Decidable.isFalse (fun e => nomatch e)
  | .str _, .non => Decidable.isFalse (fun e => nomatch e)
  | .str _, .bl _ => Decidable.isFalse (fun e => nomatch e)
  | .str _, .int _ => Decidable.isFalse (fun e => nomatch e)
  | .str _, .tup _ => Decidable.isFalse (fun e => nomatch e)
  | .str _, .lst _ => Decidable.isFalse (fun e => nomatch e)
  | .str _, .dct _ _ => Decidable.isFalse (fun e => nomatch e)
  | .str _, .ref _ => Decidable.isFalse (fun e => nomatch e)
  | .tup _, .non => Decidable.isFalse (fun e => nomatch e)
  | .tup _, .bl _ => Decidable.isFalse (fun e => nomatch e)
  | .tup _, .int _ => Decidable.isFalse (fun e => nomatch e)
  | .tup _, .str _ => Decidable.isFalse (fun e => nomatch e)
  | .tup _, .lst _ => Decidable.isFalse (fun e => nomatch e)
  | .tup _, .dct _ _ => Decidable.isFalse (fun e => nomatch e)
  | .tup _, .ref _ => Decidable.isFalse (fun e => nomatch e)
  | .lst _, .non => Decidable.isFalse (fun e => nomatch e)
  | .lst _, .bl _ => Decidable.isFalse (fun e => nomatch e)
  | .lst _, .int _ => Decidable.isFalse (fun e => nomatch e)
  | .lst _, .str _ => Decidable.isFalse (fun e => nomatch e)
  | .lst _, .tup _ => Decidable.isFalse (fun e => nomatch e)
  | .lst _, .dct _ _ => Decidable.isFalse (fun e => nomatch e)
  | .lst _, .ref _ => Decidable.isFalse (fun e => nomatch e)
  | .dct _ _, .non => Decidable.isFalse (fun e => nomatch e)
  | .dct _ _, .bl _ => Decidable.isFalse (fun e => nomatch e)
  | .dct _ _, .int _ => Decidable.isFalse (fun e => nomatch e)
  | .dct _ _, .str _ => Decidable.isFalse (fun e => nomatch e)
  | .dct _ _, .tup _ => Decidable.isFalse (fun e => nomatch e)
  | .dct _ _, .lst _ => Decidable.isFalse (fun e => nomatch e)
  | .dct _ _, .ref _ => Decidable.isFalse (fun e => nomatch e)
  | .ref _, .non => Decidable.isFalse (fun e => nomatch e)
  | .ref _, .bl _ => Decidable.isFalse (fun e => nomatch e)
  | .ref _, .int _ => Decidable.isFalse (fun e => nomatch e)
  | .ref _, .str _ => Decidable.isFalse (fun e => nomatch e)
  | .ref _, .tup _ => Decidable.isFalse (fun e => nomatch e)
  | .ref _, .lst _ => Decidable.isFalse (fun e => nomatch e)
  | .ref _, .dct _ _ => Decidable.isFalse (fun e => nomatch e)
  | .non, .scr _ => Decidable.isFalse (fun e => nomatch e)
  | .scr _, .non => Decidable.isFalse (fun e => nomatch e)
  | .bl _, .scr _ => Decidable.isFalse (fun e => nomatch e)
  | .scr _, .bl _ => Decidable.isFalse (fun e => nomatch e)
  | .int _, .scr _ => Decidable.isFalse (fun e => nomatch e)
  | .scr _, .int _ => Decidable.isFalse (fun e => nomatch e)
  | .str _, .scr _ => Decidable.isFalse (fun e => nomatch e)
  | .scr _, .str _ => Decidable.isFalse (fun e => nomatch e)
  | .tup _, .scr _ => Decidable.isFalse (fun e => nomatch e)
  | .scr _, .tup _ => Decidable.isFalse (fun e => nomatch e)
  | .lst _, .scr _ => Decidable.isFalse (fun e => nomatch e)
  | .scr _, .lst _ => Decidable.isFalse (fun e => nomatch e)
  | .dct _ _, .scr _ => Decidable.isFalse (fun e => nomatch e)
  | .scr _, .dct _ _ => Decidable.isFalse (fun e => nomatch e)
  | .ref _, .scr _ => Decidable.isFalse (fun e => nomatch e)
  | .scr _, .ref _ => Decidable.isFalse (fun e => nomatch e)
def decPVs : (a b : List PV) → Decidable (a = b)
  | [], [] => Decidable.isTrue rfl
  | x :: xs, y :: ys => match decPV x y, decPVs xs ys with
    | Decidable.isTrue h, Decidable.isTrue h' => Decidable.isTrue (by rw [h, h'])
    | Decidable.isFalse h, _ => Decidable.isFalse (by intro e; injection e with e; exact h e)
    | _, Decidable.isFalse h => Decidable.isFalse (by intro e; injection e with _ e; exact h e)
  | [], _ :: _ => Decidable.isFalse (fun e => nomatch e)
  | _ :: _, [] => Decidable.isFalse (fun e => nomatch e)
end
instance : DecidableEq PV := decPV

/-- what is mutable -/
inductive Ob where
  | lst (xs : List PV) | dct (ks vs : List PV)
  deriving Inhabited, DecidableEq

abbrev Hh := List Ob
abbrev Ev := List (Option PV)

inductive R (α : Type) where
  | ok (a : α) (h : Hh) | ex (c : Nat) (fs : List PV) (h : Hh) | err
def M (α : Type) := Hh → R α
def M.pure {α} (a : α) : M α := fun h => .ok a h
def M.bind {α β} (m : M α) (f : α → M β) : M β := fun h => match m h with
  | .ok a h' => f a h'
  | .ex c fs h' => .ex c fs h'
  | .err => .err
def M.err {α} : M α := fun _ => .err
instance : Monad M where
  pure := M.pure
  bind := M.bind
def lift {α} (o : Option α) : M α := fun h => match o with | some a => .ok a h | none => .err
/-- no exception may leave -/
def nox {α} (m : M α) : M α := fun h => match m h with | .ex .. => .err | r => r

inductive Op2 where
  | add | sub | mul | fdiv | mod | pow | shl | shr | and | or | xor
  deriving DecidableEq
inductive Cmp where
  | eq | ne | lt | le | gt | ge | isn | notn | inn | nin
  deriving DecidableEq
inductive Bi where
  | len | tuple | list | int | bool | abs | sorted | any | all | sum | min2 | max2 | str | lists
  deriving DecidableEq
inductive Ty where
  | int | bool | str | tuple | list
  deriving DecidableEq
inductive Mt where
  | append | extend | pop0 | pop1 | insert | index | join | get1
  deriving DecidableEq
inductive Tg where
  | nm (i : Nat) | tp (is : List Nat)
  deriving DecidableEq

mutual
inductive E where
  | var (i : Nat) | non | bl (b : Bool) | int (i : Int) | str (x : Str)
  | tup (es : List E) | lst (es : List E) | dct (kvs : List E) | box (e : E)
  | bin (o : Op2) (a b : E) | neg (a : E)
  | cmp (o : Cmp) (a b : E) | chain (o o' : Cmp) (a b c : E)
  | boo (isAnd : Bool) (es : List E) | not (a : E) | ite (c : T) (a b : E)
  | ix (a b : E) | sl (a : E) (lo hi : Option E) | rev (a : E)
  | bi (b : Bi) (es : List E) | isi (a : E) (t : Ty) | mt (m : Mt) (o : E) (es : List E)
  | call (raw : Bool) (f : Nat) (es : List E) | callk (raw : Bool) (f : Nat) (perm : List Nat) (es : List E)
  | lrng1 (isT : Bool) (a : E) | lrng2 (isT : Bool) (a b : E) | lrng3 (isT : Bool) (a b c : E) | cst (n : Str) (v : PV)
  | comp1 (t : Tg) (it : I) (ifs : List T) (elt : E) (own : List Nat)
  | comp2 (t : Tg) (it : I) (ifs : List T) (t1 : Tg) (it1 : I) (ifs1 : List T) (elt : E) (own own1 : List Nat)
  | get2 (o k z : E)
  | dcomp (t : Tg) (it : I) (ifs : List T) (k v : E) (own : List Nat)
  | lset (e : E)
/-- what is walked -/
inductive I where
  | seq (e : E) | txt (e : E) | rng1 (a : E) | rng2 (a b : E) | rng3 (a b c : E) | enum (e : E) | zip (a b : E) | etxt (e : E)
inductive T where
  | boo (isAnd : Bool) (es : List T) | not (a : T) | ite (c a b : T) | val (e : E)
end

/-- a part of what a suite hands back: a constant, a field of the exception -/
inductive HE where
  | cst (v : PV) | fld (j : Nat)
/-- a suite: return c; return (.., error.f, ..) -/
inductive Hb where
  | one (v : PV) | tup (es : List HE)
/-- a clause: the classes (with the numbers of their fields) that it catches, the slot of its name, its suite; classes that a guard asks ahead of it, in vain -/
structure Hd where
  cs : List (Nat × Nat)
  nm : Option Nat
  bd : Hb
  gd : List Str
inductive S where
  | asg (t : Tg) (e : E) | par (is : List Nat) (es : List E) | sub (o i e : E)
  | exp (e : E) | ret (e : E) | retn | ite (c : T) (a b : List S) | whl (c : T) (b : List S) | for_ (t : Tg) (it : I) (b : List S)
  | pass | brk | cnt | tryN (b : List S)
  | aug (i : Nat) (o : Op2) (e : E) | swp (o1 i1 o2 i2 e : E)
  | rais (c n : Nat) (es : List E) | tryX (b : S) (hs : List Hd)

/-! ### values -/
mutual
def eqv : PV → PV → Bool
  | .non, .non => true
  | .bl a, .bl b => a == b
  | .bl a, .int j => (if a then 1 else 0) == j
  | .int i, .bl b => i == (if b then 1 else 0)
  | .int i, .int j => i == j
  | .str x, .str y => x == y
  | .tup xs, .tup ys => eqvs xs ys
  | .lst xs, .lst ys => eqvs xs ys
  | _, _ => false
def eqvs : List PV → List PV → Bool
  | [], [] => true
  | x :: xs, y :: ys => eqv x y && eqvs xs ys
  | _, _ => false
end
/-- may be compared whole: no reference, texts of good signs, not too deep -/
def shp : Nat → PV → Bool
  | _, .non => true
  | _, .bl _ => true
  | _, .int _ => true
  | _, .str x => PyData.strOk x
  | n + 1, .tup l => l.all (shp n)
  | n + 1, .lst l => l.all (shp n)
  | _, _ => false
def flat : PV → Bool
  | .non => true | .bl _ => true | .int _ => true | .str _ => true | _ => false
def scal : PV → PV → Bool
  | .non, .non => true | .non, .int _ => true | .int _, .non => true | .non, .bl _ => true | .bl _, .non => true | .non, .str _ => true | .str _, .non => true
  | .int _, .int _ => true | .bl _, .bl _ => true | .str _, .str _ => true
  | .int _, .str _ => true | .str _, .int _ => true | .bl _, .str _ => true | .str _, .bl _ => true
  | _, _ => false
mutual
/-- no reference within -/
def imm : PV → Bool
  | .tup l => imms l
  | .lst l => imms l
  | .dct ks vs => imms ks && imms vs
  | .scr l => imms l
  | .ref _ => false
  | _ => true
def imms : List PV → Bool
  | [] => true
  | x :: xs => imm x && imms xs
end
mutual
/-- neither reference nor list within -/
def dat : PV → Bool
  | .tup l => dats l
  | .lst _ => false
  | .dct _ _ => false
  | .scr _ => false
  | .ref _ => false
  | _ => true
def dats : List PV → Bool
  | [] => true
  | x :: xs => dat x && dats xs
end
/-- a snapshot of what is mutable -/
def frz (h : Hh) : Nat → PV → Option PV
  | 0, v => if imm v then some v else none
  | n + 1, v => if imm v then some v else match v with
    | .ref i => match h[i]? with
      | some (.lst xs) => (xs.mapM (frz h n)).map .lst
      | some (.dct ks vs) => if imms ks && imms vs then some (.dct ks vs) else none
      | _ => none
    | .tup l => (l.mapM (frz h n)).map .tup
    | .lst l => (l.mapM (frz h n)).map .lst
    | _ => none
abbrev frzD : Nat := 4

/-- the items of a list or tuple -/
def seqOf (h : Hh) : PV → Option (List PV)
  | .tup l => some l
  | .lst l => some l
  | .ref i => match h[i]? with | some (.lst xs) => some xs | _ => none
  | .scr l => some l
  | _ => none
def lstOf (h : Hh) : PV → Option (List PV)
  | .lst l => some l
  | .ref i => match h[i]? with | some (.lst xs) => some xs | _ => none
  | _ => none
def dctOf (h : Hh) : PV → Option (List PV × List PV)
  | .dct ks vs => some (ks, vs)
  | .ref i => match h[i]? with | some (.dct ks vs) => some (ks, vs) | _ => none
  | _ => none
/-- a key of a dict: an int or a text -/
def isKey : PV → Bool
  | .int _ => true | .str _ => true | _ => false
def dget (k : PV) : List PV → List PV → Option PV
  | x :: xs, y :: ys => if x = k then some y else dget k xs ys
  | _, _ => none
def dput (k v : PV) (ks vs : List PV) : List PV × List PV :=
  if (ks.any fun x => decide (x = k)) = true then (ks, List.zipWith (fun x y => if x = k then v else y) ks vs) else (ks ++ [k], vs ++ [v])

def dctF : List PV → List PV × List PV → Option (List PV × List PV)
  | [], d => some d
  | k :: v :: r, d => if isKey k then dctF r (dput k v d.1 d.2) else none
  | _, _ => none
/-- pairs, later ones win -/
def dctG : List PV → List PV × List PV → Option (List PV × List PV)
  | [], d => some d
  | .tup [k, v] :: r, d => dctG r (dput k v d.1 d.2)
  | _, _ => none
def dctP (ys : List PV) : Option PV := (dctG ys ([], [])).map fun d => .dct d.1 d.2
def dctV (kvs : List PV) : Option PV := (dctF kvs ([], [])).map fun d => .dct d.1 d.2
def truthy (h : Hh) : PV → Option Bool
  | .non => some false
  | .bl b => some b
  | .int i => some (i != 0)
  | .str x => if x.length ≤ 16777216 then some ((x.length : Int) != 0) else none
  | .tup l => some (!l.isEmpty)
  | .lst l => some (!l.isEmpty)
  | .dct ks _ => some (!ks.isEmpty)
  | .scr l => some (!l.isEmpty)
  | .ref i => match h[i]? with | some (.lst xs) => some (!xs.isEmpty) | some (.dct ks _) => some (!ks.isEmpty) | _ => none

def i64 (i : Int) : Bool := decide (-(2 ^ 64) < i ∧ i < 2 ^ 64)
def SZ : Nat := 16777216
def op2 (h : Hh) (o : Op2) (x y : PV) : Option PV :=
  match x, y with
  | .int i, .int j => match o with
    | .add => some (.int (i + j))
    | .sub => some (.int (i - j))
    | .mul => if i64 i || i64 j then some (.int (i * j)) else none
    | .fdiv => if 0 < j ∧ j < 1073741824 then some (.int (i / j)) else none
    | .mod => if 0 < j then some (.int (i % j)) else none
    | .pow => if 0 ≤ j ∧ j ≤ 1000000 ∧ i.natAbs < 2 ^ 64 then some (.int (i ^ j.toNat)) else none
    | .shl => if 0 ≤ j ∧ j ≤ 1000000 ∧ i.natAbs < 2 ^ 64 then some (.int (i * 2 ^ j.toNat)) else none
    | .shr => if 0 ≤ j then some (.int (i / 2 ^ j.toNat)) else none
    | .and => some (.int (Builtin.bitAnd i j))
    | .or => some (.int (Builtin.bitOr i j))
    | .xor => some (.int (Builtin.bitXor i j))
  | .str a, .str b => match o with
    | .add => if a.length + b.length ≤ SZ then some (.str (a ++ b)) else none
    | _ => none
  | .tup a, .tup b => match o with
    | .add => if a.length + b.length ≤ SZ then some (.tup (a ++ b)) else none
    | _ => none
  | .tup a, .int k => match o with
    | .mul => if a ≠ [] ∧ 2 ≤ k ∧ k ≤ 1000 ∧ a.length ≤ 1000 then some (.tup (List.replicate k.toNat a).flatten) else if a = [] ∧ -(2 ^ 63) ≤ k ∧ k < 2 ^ 63 then some (.tup []) else none
    | _ => none
  | .str a, .int k => match o with
    | .mul => if a.length ≤ 16 ∧ -(2 ^ 63) ≤ k ∧ k ≤ 1048576 then some (.str (Txt.mul a k)) else none
    | _ => none
  | x, .int k => match o, lstOf h x with
    | .mul, some xs => if -(2 ^ 63) ≤ k ∧ k < 2 ^ 63 ∧ xs.length * k.toNat ≤ SZ then some (.lst (List.replicate k.toNat xs).flatten) else none
    | _, _ => none
  | x, y => match o, lstOf h x, lstOf h y with
    | .add, some a, some b => if a.length + b.length ≤ SZ then some (.lst (a ++ b)) else none
    | _, _, _ => none

/-! order: ints, texts, tuples of them -/
def rank : PV → Nat
  | .int _ => 0 | .str _ => 1 | .tup _ => 2 | _ => 3
mutual
def toks : PV → List (Int ⊕ List Nat)
  | .int i => [.inl i]
  | .str x => [.inr x.cps.toList]
  | .tup l => toksA l
  | _ => []
def toksA : List PV → List (Int ⊕ List Nat)
  | [] => [.inl 0]
  | x :: xs => .inl 1 :: (toks x ++ toksA xs)
end
abbrev tokLt (a b : List (Int ⊕ List Nat)) : Bool := PyProof.Rows.lexLt PyProof.Rows.itemOrd a b
/-- where `cmpOk` stands it is Python's -/
def ltp (x y : PV) : Bool := tokLt (toks x) (toks y)
def insP (x : PV) : List PV → List PV
  | [] => [x]
  | y :: ys => if ltp y x then y :: insP x ys else x :: y :: ys
def sortL (l : List PV) : List PV := l.foldr insP []
mutual
def cmpOk : PV → PV → Bool
  | .int _, .int _ => true
  | .str _, .str _ => true
  | .tup xs, .tup ys => cmpOks xs ys
  | _, _ => false
def cmpOks : List PV → List PV → Bool
  | [], [] => true
  | [], _ :: _ => true
  | _ :: _, [] => true
  | x :: xs, y :: ys => if x = y then cmpOks xs ys else cmpOk x y
end
mutual
/-- comparable at every place -/
def kinA : PV → PV → Bool
  | .int _, .int _ => true
  | .str _, .str _ => true
  | .tup xs, .tup ys => kinAs xs ys
  | _, _ => false
def kinAs : List PV → List PV → Bool
  | [], _ => true
  | _ :: _, [] => true
  | x :: xs, y :: ys => (decide (x = y) || kinA x y) && kinAs xs ys
end
def topOks : List PV → List PV → Bool
  | [], _ => true
  | _ :: _, [] => true
  | x :: xs, y :: ys => if x = y then topOks xs ys else kinA x y
def topOk : PV → PV → Bool
  | .tup xs, .tup ys => topOks xs ys
  | _, _ => false
mutual
/-- ints, texts, tuples of them: for these == is = -/
def sdat : PV → Bool
  | .int _ => true
  | .str _ => true
  | .tup l => sdats l
  | _ => false
def sdats : List PV → Bool
  | [] => true
  | x :: xs => sdat x && sdats xs
end
def lexLt : List Int → List Int → Bool
  | [], [] => false
  | [], _ :: _ => true
  | _ :: _, [] => false
  | x :: xs, y :: ys => if x = y then lexLt xs ys else decide (x < y)
/-- one sign in a text -/
def sgnIn (x y : PV) : Option Bool := match x, y with
  | .str a, .str b => match a.cps.toList with
    | [c] => some (decide (c ∈ b.cps.toList))
    | _ => none
  | _, _ => none
def cmpV (h : Hh) (o : Cmp) (x y : PV) : Option Bool :=
  match o with
  | .isn => if y = .non then some (decide (x = .non)) else none
  | .notn => if y = .non then some (!decide (x = .non)) else none
  | .eq => if scal x y then some (eqv x y) else match frz h frzD x, frz h frzD y with
    | some x, some y => if shp 20 x && shp 20 y then some (eqv x y) else none
    | _, _ => none
  | .ne => if scal x y then some (!eqv x y) else match frz h frzD x, frz h frzD y with
    | some x, some y => if shp 20 x && shp 20 y then some (!eqv x y) else none
    | _, _ => none
  | .lt => match x, y with | .int i, .int j => some (decide (i < j)) | x, y => if sdat x && sdat y && shp 20 x && shp 20 y && kinA x y then some (ltp x y) else none
  | .le => match x, y with | .int i, .int j => some (decide (i ≤ j)) | .str a, .str b => some (!decide (b.cps.toList < a.cps.toList)) | _, _ => none
  | .gt => match x, y with | .int i, .int j => some (decide (j < i)) | .str a, .str b => some (decide (b.cps.toList < a.cps.toList)) | _, _ => none
  | .ge => match x, y with | .int i, .int j => some (decide (j ≤ i)) | .str a, .str b => some (!decide (a.cps.toList < b.cps.toList)) | _, _ => none
  | .inn => match dctOf h y with
    | some (ks, vs) => if isKey x then some (dget x ks vs).isSome else none
    | none => match seqOf h y with
      | some l => if (flat x && l.all flat) || (shp 20 x && l.all (shp 20)) then some (l.any fun z => eqv z x) else none
      | none => sgnIn x y
  | .nin => match dctOf h y with
    | some (ks, vs) => if isKey x then some (!(dget x ks vs).isSome) else none
    | none => match seqOf h y with
      | some l => if (flat x && l.all flat) || (shp 20 x && l.all (shp 20)) then some (!l.any fun z => eqv z x) else none
      | none => (sgnIn x y).map (!·)

def cut {α} (xs : List α) (lo hi : Option Int) : List α := (xs.drop (HT.sIx xs.length 0 lo)).take (HT.sIx xs.length xs.length hi - HT.sIx xs.length 0 lo)
def slV (h : Hh) (x : PV) (lo hi : Option Int) : Option PV :=
  match x with
  | .tup l => some (.tup (cut l lo hi))
  | .lst l => some (.lst (cut l lo hi))
  | .ref i => match h[i]? with | some (.lst xs) => some (.lst (cut xs lo hi)) | _ => none
  | .scr l => some (.lst (cut l lo hi))
  | .str z => if z.length ≤ SZ then some (.str ⟨((z.cps.toList.drop (HT.sIx z.length 0 lo)).take (HT.sIx z.length z.length hi - HT.sIx z.length 0 lo)).toArray⟩) else none
  | _ => none
/-- the signs of a text -/
def txtL : PV → Option (List PV)
  | .str z => if z.cps.size ≤ SZ then some (z.cps.toList.map fun c => .str ⟨#[c]⟩) else none
  | _ => none
/-- x[::-1] -/
def revV (h : Hh) (x : PV) : Option PV :=
  match x with
  | .tup l => some (.tup l.reverse)
  | .scr l => some (.lst l.reverse)
  | x => (lstOf h x).map fun l => .lst l.reverse
def ixV (h : Hh) (x y : PV) : Option PV :=
  match dctOf h x with
  | some (ks, vs) => if isKey y then dget y ks vs else none
  | none => match seqOf h x, y with
    | some l, .int i => L2.atI l i
    | _, _ => match x, y with
      | .str z, .int i => if z.length ≤ SZ then (L2.atI z.cps.toList i).map fun c => .str ⟨#[c]⟩ else none
      | _, _ => none
def asInt : PV → Option Int
  | .int i => some i
  | _ => none
def strsOf : List PV → Option (List Str)
  | [] => some []
  | .str x :: r => (strsOf r).map (x :: ·)
  | _ :: _ => none
def intsOf : List PV → Option (List Int)
  | [] => some []
  | .int x :: r => (intsOf r).map (x :: ·)
  | _ :: _ => none
def blsOf : List PV → Option (List Bool)
  | [] => some []
  | .bl x :: r => (blsOf r).map (x :: ·)
  | _ :: _ => none
def lenV (h : Hh) (x : PV) : Option Int :=
  match x with
  | .str z => if z.length ≤ SZ then some z.length else none
  | x => match dctOf h x with
    | some (ks, _) => some ks.length
    | none => (seqOf h x).map fun l => (l.length : Int)
/-- the kind of a tuple's first item -/
def headK : PV → Option Nat
  | .tup (x :: _) => some (rank x)
  | _ => none
mutual
/-- ints, so many tuples deep -/
def lev : Nat → PV → Bool
  | 0, .int _ => true
  | n + 1, .tup l => levs n l
  | _, _ => false
def levs : Nat → List PV → Bool
  | _, [] => true
  | n, x :: xs => lev n x && levs n xs
end
def fits : List Nat → List PV → Bool
  | [], [] => true
  | p :: ps, x :: xs => lev p x && fits ps xs
  | _, _ => false
def tupL : PV → List PV
  | .tup xs => xs
  | _ => []
def patOf (l : List PV) : List Nat := (List.range (tupL (l.headD .non)).length).map fun i => ((List.range 6).find? fun n => l.all fun x => lev n ((tupL x).getD i .non)).getD 0
def fitT (p : List Nat) : PV → Bool
  | .tup xs => fits p xs
  | _ => false
/-- a quick test that all are of one kind -/
def quick (l : List PV) : Bool := !(patOf l).isEmpty && l.all (fitT (patOf l))
def sortP (l : List PV) : Option (List PV) :=
  if l.all sdat && l.all (shp 20) && (quick l || l.all fun x => l.all fun y => topOk x y && decide (headK x = headK y) && (headK x).isSome) then some (sortL l) else none
def boolV (h : Hh) : PV → Option Bool
  | .int i => some (i != 0)
  | .bl b => some b
  | x => (seqOf h x).map fun l => !l.isEmpty
def bi1 (h : Hh) (b : Bi) (xs : List PV) : Option PV :=
  match b, xs with
  | .len, [x] => (lenV h x).map .int
  | .tuple, [x] => (seqOf h x).map .tup
  | .list, [x] => (seqOf h x).map .lst
  | .int, [.int i] => some (.int i)
  | .int, [.bl b] => some (.int (if b then 1 else 0))
  | .bool, [x] => (boolV h x).map .bl
  | .abs, [.int i] => some (.int (if i < 0 then -i else i))
  | .sorted, [x] => (lstOf h x).bind fun l => match intsOf l with
    | some is => some (.lst ((PySem.W.sortI is).map .int))
    | none => (sortP l).map .lst
  | .any, [x] => ((lstOf h x).bind blsOf).map fun l => .bl (l.any id)
  | .all, [x] => ((lstOf h x).bind blsOf).map fun l => .bl (l.all id)
  | .sum, [x] => ((lstOf h x).bind intsOf).map fun l => .int l.sum
  | .min2, [.int i, .int j] => some (.int (if j < i then j else i))
  | .max2, [.int i, .int j] => some (.int (if j > i then j else i))
  | .lists, [x] => (txtL x).map .lst
  | .str, [.int i] => if i.natAbs.log2 < 1920 then some (.str (toString i)) else none
  | _, _ => none
def isiV (h : Hh) (x : PV) (t : Ty) : Option Bool :=
  match x with
  | .non => some false
  | .bl _ => some (t == .bool || t == .int)
  | .int _ => some (t == .int)
  | .str _ => some (t == .str)
  | .tup _ => some (t == .tuple)
  | .lst _ => some (t == .list)
  | .dct _ _ => none
  | .scr _ => none
  | .ref i => match h[i]? with | some (.lst _) => some (t == .list) | _ => none
def mAppend (x : PV) (xs : List PV) : M PV := fun h => match x, xs with
  | .ref i, [y] => match h[i]? with
    | some (.lst l) => if l.length < SZ then .ok .non (h.set i (.lst (l ++ [y]))) else .err
    | _ => .err
  | _, _ => .err
/-- a list or a tuple -/
def ltOf (h : Hh) (x : PV) : Option (List PV) := match x with
  | .tup l => some l
  | x => lstOf h x
def mExtend (x : PV) (xs : List PV) : M PV := fun h => match x, xs with
  | .ref i, [y] => match h[i]? with
    | some (.lst l) => match ltOf h y with
      | some r => if l.length + r.length ≤ SZ then .ok .non (h.set i (.lst (l ++ r))) else .err
      | none => .err
    | _ => .err
  | _, _ => .err
def mPop0 (x : PV) (xs : List PV) : M PV := fun h => match x, xs with
  | .ref i, [] => match h[i]? with
    | some (.lst l) => match l.getLast? with | some y => .ok y (h.set i (.lst l.dropLast)) | none => .err
    | _ => .err
  | _, _ => .err
def mPop1 (x : PV) (xs : List PV) : M PV := fun h => match x, xs with
  | .ref i, [.int z] => match h[i]? with
    | some (.lst l) => match L2.ixN l.length z with
      | some j => match l[j]? with | some y => .ok y (h.set i (.lst (l.eraseIdx j))) | none => .err
      | none => .err
    | _ => .err
  | _, _ => .err
def mInsert (x : PV) (xs : List PV) : M PV := fun h => match x, xs with
  | .ref i, [.int z, y] => match h[i]? with
    | some (.lst l) => if 0 ≤ z ∧ z < 2 ^ 63 ∧ l.length < SZ then .ok .non (h.set i (.lst (l.take z.toNat ++ [y] ++ l.drop z.toNat))) else .err
    | _ => .err
  | _, _ => .err
def mJoin (x : PV) (xs : List PV) : M PV := fun h => match x, xs with
  | .str a, [y] => match (seqOf h y).bind strsOf with
    | some ys => if (ys.map (·.length)).sum + ys.length * a.length ≤ SZ then .ok (.str (Txt.join a ys)) h else .err
    | none => .err
  | _, _ => .err
def mGet1 (x : PV) (xs : List PV) : M PV := fun h => match x, xs with
  | x, [k] => match dctOf h x with
    | some (ks, vs) => if isKey k then .ok ((dget k ks vs).getD .non) h else .err
    | none => .err
  | _, _ => .err
/-- d.get(k, z) -/
def get2V (h : Hh) (x k z : PV) : Option PV := match dctOf h x with
  | some (ks, vs) => if isKey k then some ((dget k ks vs).getD z) else none
  | none => none
/-- the first place of an item -/
def findIx (y : PV) : List PV → Option Nat
  | [] => none
  | x :: xs => if eqv x y then some 0 else (findIx y xs).map (· + 1)
def mIndex (x : PV) (xs : List PV) : M PV := fun h => match xs with
  | [y] => match ltOf h x with
    | some l => if (flat y && l.all flat) || (shp 20 y && l.all (shp 20)) then (match findIx y l with | some j => .ok (.int (j : Nat)) h | none => .err) else .err
    | none => .err
  | _ => .err
/-- each once -/
def ddP (l : List PV) : List PV := l.foldl (fun a k => if a.any (fun y => decide (y = k)) then a else a ++ [k]) []
/-- len(set(x)) -/
def lsetV (h : Hh) (x : PV) : Option Int := match seqOf h x with
  | some l => if l.all isKey && decide (l.length ≤ 4000) then some ((ddP l).length : Nat) else none
  | none => none
/-- the receiver is of the method's type -/
def mtT (h : Hh) (m : Mt) (x : PV) : Option Unit :=
  match m with
  | .join => match x with | .str _ => some () | _ => none
  | .get1 => (dctOf h x).map fun _ => ()
  | .index => (ltOf h x).map fun _ => ()
  | _ => (lstOf h x).map fun _ => ()
def mtV (m : Mt) (x : PV) (xs : List PV) : M PV :=
  match m with
  | .append => mAppend x xs
  | .extend => mExtend x xs
  | .pop0 => mPop0 x xs
  | .pop1 => mPop1 x xs
  | .insert => mInsert x xs
  | .index => mIndex x xs
  | .join => mJoin x xs
  | .get1 => mGet1 x xs

/-! ### the evaluator -/
def setsE (env : Ev) : List Nat → List PV → Ev
  | i :: is, v :: vs => setsE (env.set i (some v)) is vs
  | _, _ => env
def bindT (t : Tg) (v : PV) (env : Ev) : Option Ev :=
  match t with
  | .nm i => some (env.set i (some v))
  | .tp is => match v with
    | .tup l => if l.length = is.length then some (setsE env is l) else none
    | _ => none
def wipe (env : Ev) : List Nat → Ev
  | [] => env
  | v :: vs => (wipe env vs).set v none

def rangeL (a : Int) : Nat → List PV
  | 0 => []
  | n + 1 => .int a :: rangeL (a + 1) n
def rangeC (a c : Int) : Nat → List PV
  | 0 => []
  | n + 1 => .int a :: rangeC (a + c) c n
def enumL (i : Nat) : List PV → List PV
  | [] => []
  | x :: xs => .tup [.int i, x] :: enumL (i + 1) xs
def zipL : List PV → List PV → List PV
  | x :: xs, y :: ys => .tup [x, y] :: zipL xs ys
  | _, _ => []
def iN (j : Int) : Bool := decide (-(2 ^ 62) ≤ j ∧ j < 2 ^ 62)
def rng1V : PV → Option (List PV)
  | .int j => if iN j && decide (j.toNat ≤ SZ) then some (rangeL 0 j.toNat) else none
  | _ => none
def rng2V : PV → PV → Option (List PV)
  | .int i, .int j => if iN i && iN j && decide ((j - i).toNat ≤ SZ) then some (rangeL i (j - i).toNat) else none
  | _, _ => none
def rng3V : PV → PV → PV → Option (List PV)
  | .int i, .int j, .int c => if decide (c ≠ 0 ∧ c.natAbs < 1073741824) && Builtin.Range.small i j c && decide (Builtin.Range.rangeSize i j c = ((Builtin.Range.rangeSize i j c).toNat : Int)) && decide ((Builtin.Range.rangeSize i j c).toNat ≤ SZ) then some (rangeC i c (Builtin.Range.rangeSize i j c).toNat) else none
  | _, _, _ => none
/-- what guards a walk: a mutable list must stay as it was -/
def grd (x : PV) (l : List PV) (h : Hh) : Bool :=
  match x with
  | .ref i => decide (h[i]? = some (.lst l))
  | _ => true
/-- two lists, or two tuples -/
def zipOf (h : Hh) (x y : PV) : Option (List PV × List PV) :=
  match x, y with
  | .tup a, .tup b => some (a, b)
  | x, y => match lstOf h x, lstOf h y with
    | some a, some b => some (a, b)
    | _, _ => none
def iterOf (h : Hh) (x : PV) : Option (List PV) := seqOf h x

def mapG (g : Hh → Bool) (f : PV → M (Option PV)) : List PV → M (List PV)
  | [] => fun h => if g h then .ok [] h else .err
  | x :: xs => fun h => if g h then (match f x h with
    | .ok o h1 => (match mapG g f xs h1 with
      | .ok r h2 => .ok (o.toList ++ r) h2
      | .ex c fs h2 => .ex c fs h2
      | .err => .err)
    | .ex c fs h1 => .ex c fs h1
    | .err => .err) else .err
/-- the second clause of a comprehension hands back several -/
def bindG (g : Hh → Bool) (f : PV → M (List PV)) : List PV → M (List PV)
  | [] => fun h => if g h then .ok [] h else .err
  | x :: xs => fun h => if g h then (match f x h with
    | .ok o h1 => (match bindG g f xs h1 with
      | .ok r h2 => .ok (o ++ r) h2
      | .ex c fs h2 => .ex c fs h2
      | .err => .err)
    | .ex c fs h1 => .ex c fs h1
    | .err => .err) else .err

/-- a frozen thing taken over -/
def boxM (v : PV) : M PV := fun h => match v with
  | .lst l => .ok (.ref h.length) (h ++ [.lst l])
  | .dct ks vs => .ok (.ref h.length) (h ++ [.dct ks vs])
  | _ => .err
def lc1 (t : Tg) (own : List Nat) (mI : Ev → M (List PV × (Hh → Bool))) (mf : Ev → M Bool) (me : Ev → M PV) : Ev → M PV := fun env => do
      let lg ← mI env
      let ys ← nox (mapG lg.2 (fun v => do
        let e1 ← lift (bindT t v (wipe env own))
        if ← mf e1 then (do let y ← me e1; pure (some y)) else pure none) lg.1)
      pure (.lst ys)
def sizeM (ys : List PV) : M (List PV) := lift (if ys.length ≤ SZ then some ys else none)
/-- two clauses -/
def lc2 (t : Tg) (own : List Nat) (mI : Ev → M (List PV × (Hh → Bool))) (mf : Ev → M Bool) (t1 : Tg) (own1 : List Nat) (mI1 : Ev → M (List PV × (Hh → Bool))) (mf1 : Ev → M Bool) (me : Ev → M PV) : Ev → M PV := fun env => do
      let lg ← mI env
      let ys ← nox (bindG lg.2 (fun v => do
        let e1 ← lift (bindT t v (wipe env own))
        if ← mf e1 then (do
          let lg1 ← mI1 e1
          mapG lg1.2 (fun v1 => do
            let e2 ← lift (bindT t1 v1 (wipe e1 own1))
            if ← mf1 e2 then (do let y ← me e2; pure (some y)) else pure none) lg1.1) else pure []) lg.1 >>= sizeM)
      pure (.lst ys)
/-- a dict's comprehension -/
def dc1 (t : Tg) (own : List Nat) (mI : Ev → M (List PV × (Hh → Bool))) (mf : Ev → M Bool) (mk mv : Ev → M PV) : Ev → M PV := fun env => do
      let lg ← mI env
      let ys ← nox (mapG lg.2 (fun v => do
        let e1 ← lift (bindT t v (wipe env own))
        if ← mf e1 then (do let y ← mk e1; let z ← mv e1; lift (if isKey y = true then some (some (PV.tup [y, z])) else none)) else pure none) lg.1)
      lift (dctP ys)
abbrev CF := Nat → List PV → M PV
/-- a call by snapshot: the callee has a heap of its own -/
def callP (cf : CF) (f : Nat) (args : List PV) : M PV := fun h =>
  match args.mapM (frz h frzD) with
  | none => .err
  | some as => match cf f as [] with
    | .ok v h1 => match frz h1 frzD v with
      | some v' => if imms args || dat v' then .ok v' h else .err
      | none => .err
    | .ex c fs _ => if dats fs then .ex c fs h else .err
    | .err => .err
/-- the keywords' values in the parameters' order -/
def permL {α} (perm : List Nat) (ws : List α) : Option (List α) := perm.mapM fun i => ws[i]?
def callM (cf : CF) (raw : Bool) (f : Nat) (args : List PV) : M PV := if raw then cf f args else callP cf f args

section
variable (cf : CF)
mutual
def evE : E → Ev → M PV
  | .var i, env => fun h => match env[i]? with | some (some v) => .ok v h | _ => .err
  | .non, _ => fun h => .ok .non h
  | .bl b, _ => fun h => .ok (.bl b) h
  | .int i, _ => fun h => .ok (.int i) h
  | .str x, _ => fun h => .ok (.str x) h
  | .tup es, env => do let vs ← evEs es env; pure (.tup vs)
  | .lst es, env => do let vs ← evEs es env; pure (.lst vs)
  | .dct kvs, env => do
      let r ← evEs kvs env
      lift (dctV r)
  | .box e, env => do
      let v ← evE e env
      boxM v
  | .bin o a b, env => do let x ← evE a env; let y ← evE b env; fun h => lift (op2 h o x y) h
  | .neg a, env => do
      match ← evE a env with
      | .int i => pure (.int (-i))
      | _ => M.err
  | .cmp o a b, env => do let x ← evE a env; let y ← evE b env; fun h => lift ((cmpV h o x y).map .bl) h
  | .chain o o' a b c, env => do
      let x ← evE a env
      let y ← evE b env
      let k ← fun h => lift (cmpV h o x y) h
      if k then (do let z ← evE c env; fun h => lift ((cmpV h o' y z).map .bl) h) else pure (.bl false)
  | .boo isAnd es, env => evB isAnd es env
  | .not a, env => do
      let v ← evE a env
      let b ← fun h => lift (truthy h v) h
      pure (.bl (!b))
  | .ite c a b, env => do if ← evT c env then evE a env else evE b env
  | .ix a b, env => do let x ← evE a env; let y ← evE b env; fun h => lift (ixV h x y) h
  | .sl a lo hi, env => do
      let x ← evE a env
      let l ← evO lo env
      let u ← evO hi env
      fun h => lift (slV h x l u) h
  | .rev a, env => do let x ← evE a env; fun h => lift (revV h x) h
  | .bi b es, env => do let vs ← evEs es env; fun h => lift (bi1 h b vs) h
  | .isi a t, env => do let x ← evE a env; fun h => lift ((isiV h x t).map .bl) h
  | .mt m o es, env => do
      let x ← evE o env
      fun h => lift (mtT h m x) h
      let vs ← evEs es env
      mtV m x vs
  | .call raw f es, env => do let vs ← evEs es env; callM cf raw f vs
  | .callk raw f perm es, env => do
      let vs ← evEs es env
      match permL perm vs with
      | some ws => callM cf raw f ws
      | none => M.err
  | .lrng1 isT a, env => do
      let x ← evE a env
      lift ((rng1V x).map fun l => if isT then .tup l else .lst l)
  | .lrng2 isT a b, env => do
      let x ← evE a env
      let y ← evE b env
      lift ((rng2V x y).map fun l => if isT then .tup l else .lst l)
  | .lrng3 isT a b c, env => do
      let x ← evE a env
      let y ← evE b env
      let z ← evE c env
      lift ((rng3V x y z).map fun l => if isT then .tup l else .lst l)
  | .cst _ v, _ => fun h => .ok v h
  | .comp1 t it ifs elt own, env => lc1 t own (evI it) (evB1 ifs) (evE elt) env
  | .comp2 t it ifs t1 it1 ifs1 elt own own1, env => lc2 t own (evI it) (evB1 ifs) t1 own1 (evI it1) (evB1 ifs1) (evE elt) env
  | .get2 o k z, env => do
      let x ← evE o env
      fun h => lift ((dctOf h x).map fun _ => ()) h
      let y ← evE k env
      let w ← evE z env
      fun h => lift (get2V h x y w) h
  | .dcomp t it ifs k v own, env => dc1 t own (evI it) (evB1 ifs) (evE k) (evE v) env
  | .lset e, env => do
      let x ← evE e env
      fun h => lift ((lsetV h x).map .int) h
/-- what is walked: the items, and what guards them -/
def evI : I → Ev → M (List PV × (Hh → Bool))
  | .seq e, env => do
      let x ← evE e env
      let l ← fun h => lift (iterOf h x) h
      pure (l, grd x l)
  | .txt e, env => do
      let x ← evE e env
      let l ← lift (txtL x)
      pure (l, fun _ => true)
  | .rng1 a, env => do
      let x ← evE a env
      let l ← lift (rng1V x)
      pure (l, fun _ => true)
  | .rng2 a b, env => do
      let x ← evE a env
      let y ← evE b env
      let l ← lift (rng2V x y)
      pure (l, fun _ => true)
  | .rng3 a b c, env => do
      let x ← evE a env
      let y ← evE b env
      let z ← evE c env
      let l ← lift (rng3V x y z)
      pure (l, fun _ => true)
  | .enum e, env => do
      let x ← evE e env
      let l ← fun h => lift (iterOf h x) h
      pure (enumL 0 l, grd x l)
  | .etxt e, env => do
      let x ← evE e env
      let l ← lift (txtL x)
      pure (enumL 0 l, fun _ => true)
  | .zip a b, env => do
      let x ← evE a env
      let y ← evE b env
      let l ← fun h => lift (zipOf h x y) h
      pure (zipL l.1 l.2, fun h => grd x l.1 h && grd y l.2 h)
/-- a test -/
def evT : T → Ev → M Bool
  | .boo isAnd es, env => evBT isAnd es env
  | .not a, env => do let b ← evT a env; pure (!b)
  | .ite c a b, env => do if ← evT c env then evT a env else evT b env
  | .val e, env => do let v ← evE e env; fun h => lift (truthy h v) h
def evEs : List E → Ev → M (List PV)
  | [], _ => fun h => .ok [] h
  | e :: es, env => do let v ← evE e env; let vs ← evEs es env; pure (v :: vs)
/-- and, or as a value -/
def evB : Bool → List E → Ev → M PV
  | _, [], _ => M.err
  | _, [e], env => evE e env
  | a, e :: es, env => do
      let v ← evE e env
      let b ← fun h => lift (truthy h v) h
      if b = a then evB a es env else pure v
/-- and, or as a test -/
def evBT : Bool → List T → Ev → M Bool
  | a, [], _ => pure a
  | a, e :: es, env => do let b ← evT e env; if b = a then evBT a es env else pure b
/-- all tests of a clause -/
def evB1 : List T → Ev → M Bool
  | [], _ => pure true
  | e :: es, env => do let b ← evT e env; if b then evB1 es env else pure false
def evO : Option E → Ev → M (Option Int)
  | none, _ => pure none
  | some e, env => do let v ← evE e env; lift ((asInt v).map some)
end
end

inductive Fl where
  | nx (env : Ev) | rt (v : PV) | bk (env : Ev) | ct (env : Ev)
/-- behind a statement, the next -/
def seqF (k : Ev → M Fl) : Fl → M Fl
  | .nx e => k e
  | r => pure r
/-- behind a loop's body, the next turn -/
def loopF (k : Ev → M Fl) : Fl → M Fl
  | .nx e => k e
  | .ct e => k e
  | .bk e => pure (.nx e)
  | .rt v => pure (.rt v)
def whileF (c : Ev → M Bool) (b : Ev → M Fl) : Nat → Ev → M Fl
  | 0, _ => M.err
  | n + 1, env => do
    if ← c env then (do let f ← b env; loopF (whileF c b n) f) else pure (.nx env)
def forG (g : Hh → Bool) (f : PV → Ev → M Fl) : List PV → Ev → M Fl
  | [], env => fun h => if g h then .ok (.nx env) h else .err
  | x :: xs, env => fun h => if g h then (f x env >>= loopF (forG g f xs)) h else .err
def forB (t : Tg) (mb : Ev → M Fl) : PV → Ev → M Fl := fun v e => match bindT t v e with | some e1 => mb e1 | none => M.err
def asgM (t : Tg) (me : Ev → M PV) : Ev → M Fl := fun env => do let v ← me env; lift ((bindT t v env).map .nx)
/-- o[i] = v -/
def setV (o i v : PV) : M Unit := fun h => match o with
  | .ref a => match h[a]? with
    | some (.lst l) => match i with
      | .int z => match L2.ixN l.length z with
        | some j => .ok () (h.set a (.lst (l.set j v)))
        | none => .err
      | _ => .err
    | some (.dct ks vs) => if isKey i && decide (ks.length < SZ) then .ok () (h.set a (.dct (dput i v ks vs).1 (dput i v ks vs).2)) else .err
    | _ => .err
  | _ => .err
/-- what is changed in its place -/
def augV (o : Op2) (x y : PV) : Option PV :=
  match o, x, y with
  | .add, .int i, .int j => some (.int (i + j))
  | .sub, .int i, .int j => some (.int (i - j))
  | _, _, _ => none
def WF : Nat := 1000000
/-! exceptions of own classes, their fields flat -/
def flt : PV → Bool
  | .non => true
  | .bl _ => true
  | .int _ => true
  | .str _ => true
  | _ => false
def raiM (c n : Nat) (ms : Ev → M (List PV)) : Ev → M Fl := fun env => do
  let xs ← ms env
  fun h => if xs.all flt && decide (xs.length = n) then .ex c xs h else .err
def heV (fs : List PV) : HE → Option PV
  | .cst v => if flt v then some v else none
  | .fld j => fs[j]?
def hbV (fs : List PV) : Hb → Option PV
  | .one v => if flt v then some v else none
  | .tup es => if es.length ≤ 1000 then (es.mapM (heV fs)).map PV.tup else none
def hsM : List Hd → Nat → List PV → M Fl
  | [], c, fs => fun h => .ex c fs h
  | hd :: r, c, fs => match hd.cs.lookup c with
    | some n => if fs.all flt && decide (fs.length = n) then lift ((hbV fs hd.bd).map .rt) else M.err
    | none => hsM r c fs
def tryM (m : Ev → M Fl) (hs : List Hd) : Ev → M Fl := fun env h => match m env h with
  | .ex c fs h1 => hsM hs c fs h1
  | r => r
section
variable (cf : CF)
mutual
def evS : S → Ev → M Fl
  | .asg t e, env => asgM t (evE cf e) env
  | .par is es, env => do let vs ← evEs cf es env; lift (if vs.length = is.length then some (.nx (setsE env is vs)) else none)
  | .sub o i e, env => do
      let v ← evE cf e env
      let x ← evE cf o env
      let y ← evE cf i env
      setV x y v
      pure (.nx env)
  | .exp e, env => do let _ ← evE cf e env; pure (.nx env)
  | .ret e, env => do let v ← evE cf e env; pure (.rt v)
  | .retn, _ => pure (.rt .non)
  | .ite c a b, env => do if ← evT cf c env then evSs a env else evSs b env
  | .whl c b, env => whileF (evT cf c) (evSs b) WF env
  | .for_ t it b, env => do
      let lg ← evI cf it env
      forG lg.2 (forB t (evSs b)) lg.1 env
  | .pass, env => pure (.nx env)
  | .brk, env => pure (.bk env)
  | .cnt, env => pure (.ct env)
  | .tryN b, env => nox (evSs b env)
  | .rais c n es, env => raiM c n (evEs cf es) env
  | .tryX b hs, env => tryM (fun env => do let f ← evS b env; seqF (fun env => pure (.nx env)) f) hs env
  | .aug i o e, env => do
      let x ← evE cf (.var i) env
      let y ← evE cf e env
      fun h => lift ((augV o x y).map fun z => .nx (env.set i (some z))) h
  | .swp o1 i1 o2 i2 e, env => do
      let v ← evE cf e env
      match v with
      | .tup [a, b] => do
        let x ← evE cf o1 env
        let y ← evE cf i1 env
        setV x y a
        let x2 ← evE cf o2 env
        let y2 ← evE cf i2 env
        setV x2 y2 b
        pure (.nx env)
      | _ => M.err
def evSs : List S → Ev → M Fl
  | [], env => pure (.nx env)
  | s :: ss, env => do
      let f ← evS s env
      seqF (evSs ss) f
end
end
structure Df where
  n : Nat
  slots : Nat
  body : List S
def startE (d : Df) (args : List PV) : Ev := args.map some ++ List.replicate (d.slots - d.n) none
def finF : Fl → M PV
  | .nx _ => pure .non
  | .rt v => pure v
  | _ => M.err
def runD (cf : CF) (d : Df) (args : List PV) : M PV :=
  if args.length = d.n then (do let f ← evSs cf d.body (startE d args); finF f) else M.err
def run (P : List Df) : Nat → CF
  | 0 => fun _ _ => M.err
  | k + 1 => fun f args => match P[f]? with
    | some d => runD (run P k) d args
    | none => M.err
end Y

/-! K2: own values against the hand layer's -/
namespace Y
open PySem PySem.Spec PyProof.Rows L2

/-- where values live -/
structure KF where
  fr : PySem.W.Frag
  prog : Program
  w : World
abbrev kf (X : L2.Cx) : KF := ⟨X.K, X.prog, X.w⟩
section
variable (K : KF) (B : Addr → Prop)
def keyP : Key → PV
  | .inl i => .int i
  | .inr x => .str x
/-- a frozen thing: as tracked, none of ours -/
def Fz (ρ : List Addr) (H : Hp) (a : Addr) (o : HO) : Prop := H a = some o ∧ a ∉ ρ ∧ ¬ B a
def KTup (a : Addr) (vs : List V) : Prop :=
  ∃ (o : Obj) (its : Array Value) (n : Nat), K.fr.lookup a = some o ∧ o.cls = .type "tuple" ∧ o.dict = none ∧ o.data = .seq its n ∧ its.size ≤ sizeLine ∧ Vals vs its.toList
/-- a tuple made while the program ran: its object is known -/
def TupK (H : Hp) (a : Addr) (vs : List V) : Prop := ∃ o : Obj, o.cls = .type "tuple" ∧ o.dict = none ∧ H a = some (.frz o (.tup vs))
def KLst (a : Addr) (vs : List V) : Prop :=
  ∃ (o : Obj) (its : Array Value) (n : Nat), K.fr.lookup a = some o ∧ o.cls = .type "list" ∧ o.dict = none ∧ o.data = .seq its n ∧ its.size ≤ sizeLine ∧ Vals vs its.toList
mutual
def Rel (ρ : List Addr) (H : Hp) : PV → V → Prop
  | .non, v => v = .non
  | .bl b, v => v = .bl b
  | .int i, v => v = .int i
  | .str x, v => v = .str x
  | .tup l, v => ∃ a vs, v = .ref a ∧ (TupK H a vs ∨ KTup K a vs) ∧ vs.length ≤ SZ ∧ Rels ρ H l vs
  | .lst l, v => ∃ a vs, v = .ref a ∧ Fz B ρ H a (.lst vs) ∧ vs.length ≤ SZ ∧ Rels ρ H l vs
  | .dct ks ws, v => ∃ a kvs, v = .ref a ∧ Fz B ρ H a (.dK kvs) ∧ kvs.length ≤ SZ ∧ ks = kvs.map (fun p => keyP p.1) ∧ Rels ρ H ws (kvs.map (·.2))
  | .scr l, v => ∃ a vs, v = .ref a ∧ ((∃ o, Fz B ρ H a (.frz o (.lst vs))) ∨ KLst K a vs) ∧ vs.length ≤ SZ ∧ Rels ρ H l vs
  | .ref i, v => ∃ a, ρ[i]? = some a ∧ v = .ref a
def Rels (ρ : List Addr) (H : Hp) : List PV → List V → Prop
  | [], vs => vs = []
  | x :: xs, vs => ∃ w ws, vs = w :: ws ∧ Rel ρ H x w ∧ Rels ρ H xs ws
end
def ObR (ρ : List Addr) (H : Hp) (a : Addr) : Ob → Prop
  | .lst xs => ∃ vs, H a = some (.lst vs) ∧ vs.length ≤ SZ ∧ Rels K B ρ H xs vs
  | .dct ks ws => ∃ kvs, H a = some (.dK kvs) ∧ kvs.length ≤ SZ ∧ ks = kvs.map (fun p => keyP p.1) ∧ Rels K B ρ H ws (kvs.map (·.2))
structure SR (ρ : List Addr) (h : Hh) (H : Hp) : Prop where
  len : ρ.length = h.length
  nd : ρ.Nodup
  bnd : ∀ a, B a → a ∉ ρ ∧ ∃ o, H a = some o
  ob : ∀ (i : Nat) (o : Ob) (a : Addr), h[i]? = some o → ρ[i]? = some a → ObR K B ρ H a o
end
structure Ext (ρ : List Addr) (H : Hp) (ρ' : List Addr) (H' : Hp) : Prop where
  pre : ∃ t, ρ' = ρ ++ t
  keep : ∀ a o, H a = some o → a ∉ ρ → H' a = some o ∧ a ∉ ρ'
  tup : ∀ a vs, TupK H a vs → TupK H' a vs

theorem Ext.refl (ρ H) : Ext ρ H ρ H := ⟨⟨[], by simp⟩, fun _ _ h n => ⟨h, n⟩, fun _ _ h => h⟩
theorem Ext.trans {ρ H ρ1 H1 ρ2 H2} (a : Ext ρ H ρ1 H1) (b : Ext ρ1 H1 ρ2 H2) : Ext ρ H ρ2 H2 := by
  refine ⟨?_, fun c o h n => ?_, fun c vs h => b.tup c vs (a.tup c vs h)⟩
  · obtain ⟨t, rfl⟩ := a.pre
    obtain ⟨u, rfl⟩ := b.pre
    exact ⟨t ++ u, by simp⟩
  · obtain ⟨h1, n1⟩ := a.keep c o h n
    exact b.keep c o h1 n1
theorem Ext.get {ρ H ρ' H'} (e : Ext ρ H ρ' H') {i : Nat} {a : Addr} (h : ρ[i]? = some a) : ρ'[i]? = some a := by
  obtain ⟨t, rfl⟩ := e.pre
  rw [List.getElem?_append_left (List.getElem?_eq_some_iff.mp h).1]
  exact h

section
variable {K : KF} {B : Addr → Prop} {ρ ρ' : List Addr} {H H' : Hp} {h h' : Hh}
theorem Fz.mono {a : Addr} {o : HO} (e : Ext ρ H ρ' H') (f : Fz B ρ H a o) : Fz B ρ' H' a o := ⟨(e.keep a o f.1 f.2.1).1, (e.keep a o f.1 f.2.1).2, f.2.2⟩
mutual
theorem Rel.mono (e : Ext ρ H ρ' H') : ∀ (p : PV) (v : V), Rel K B ρ H p v → Rel K B ρ' H' p v
  | .non, v, h => by simpa only [Rel] using h
  | .bl b, v, h => by simpa only [Rel] using h
  | .int i, v, h => by simpa only [Rel] using h
  | .str x, v, h => by simpa only [Rel] using h
  | .tup l, v, h => by
    simp only [Rel] at h ⊢
    obtain ⟨a, vs, r, f, z, q⟩ := h
    exact ⟨a, vs, r, f.imp (e.tup a vs) id, z, Rels.mono e l vs q⟩
  | .lst l, v, h => by
    simp only [Rel] at h ⊢
    obtain ⟨a, vs, r, f, z, q⟩ := h
    exact ⟨a, vs, r, f.mono e, z, Rels.mono e l vs q⟩
  | .dct ks ws, v, h => by
    simp only [Rel] at h ⊢
    obtain ⟨a, kvs, r, f, z, k, q⟩ := h
    exact ⟨a, kvs, r, f.mono e, z, k, Rels.mono e ws _ q⟩
  | .scr l, v, h => by
    simp only [Rel] at h ⊢
    obtain ⟨a, vs, r, f, z, q⟩ := h
    exact ⟨a, vs, r, f.imp (fun ⟨o, f⟩ => ⟨o, f.mono e⟩) id, z, Rels.mono e l vs q⟩
  | .ref i, v, h => by
    simp only [Rel] at h ⊢
    obtain ⟨a, r, f⟩ := h
    exact ⟨a, e.get r, f⟩
theorem Rels.mono (e : Ext ρ H ρ' H') : ∀ (ps : List PV) (vs : List V), Rels K B ρ H ps vs → Rels K B ρ' H' ps vs
  | [], vs, h => by simpa only [Rels] using h
  | x :: xs, vs, h => by
    simp only [Rels] at h ⊢
    obtain ⟨w, ws, r, a, b⟩ := h
    exact ⟨w, ws, r, Rel.mono e x w a, Rels.mono e xs ws b⟩
end
theorem Rels.nil : Rels K B ρ H [] [] := by simp only [Rels]
theorem Rels.cons {x : PV} {xs : List PV} {v : V} {vs : List V} (a : Rel K B ρ H x v) (b : Rels K B ρ H xs vs) : Rels K B ρ H (x :: xs) (v :: vs) := by
  simp only [Rels]; exact ⟨v, vs, rfl, a, b⟩
theorem Rels.nil_inv {vs : List V} (h : Rels K B ρ H [] vs) : vs = [] := by simpa only [Rels] using h
theorem Rels.cons_inv {x : PV} {xs : List PV} {vs : List V} (h : Rels K B ρ H (x :: xs) vs) : ∃ w ws, vs = w :: ws ∧ Rel K B ρ H x w ∧ Rels K B ρ H xs ws := by simpa only [Rels] using h
theorem Rels.length : ∀ {xs : List PV} {vs : List V}, Rels K B ρ H xs vs → xs.length = vs.length
  | [], vs, h => by rw [h.nil_inv]; rfl
  | x :: xs, vs, h => by
    obtain ⟨w, ws, rfl, a, b⟩ := h.cons_inv
    simp [b.length]
theorem Rels.get : ∀ {xs : List PV} {vs : List V} {i : Nat} {x : PV}, Rels K B ρ H xs vs → xs[i]? = some x → ∃ v, vs[i]? = some v ∧ Rel K B ρ H x v
  | [], vs, i, x, h, e => by simp at e
  | y :: xs, vs, 0, x, h, e => by
    obtain ⟨w, ws, rfl, a, b⟩ := h.cons_inv
    simp at e; subst e
    exact ⟨w, rfl, a⟩
  | y :: xs, vs, i + 1, x, h, e => by
    obtain ⟨w, ws, rfl, a, b⟩ := h.cons_inv
    simpa using Rels.get b (by simpa using e)
theorem Rels.append : ∀ {xs ys : List PV} {vs ws : List V}, Rels K B ρ H xs vs → Rels K B ρ H ys ws → Rels K B ρ H (xs ++ ys) (vs ++ ws)
  | [], ys, vs, ws, a, b => by rw [a.nil_inv]; exact b
  | x :: xs, ys, vs, ws, a, b => by
    obtain ⟨w, us, rfl, p, q⟩ := a.cons_inv
    exact Rels.cons p (Rels.append q b)
theorem Rels.take : ∀ {xs : List PV} {vs : List V} (n : Nat), Rels K B ρ H xs vs → Rels K B ρ H (xs.take n) (vs.take n)
  | [], vs, n, h => by rw [h.nil_inv]; simp; exact Rels.nil
  | x :: xs, vs, 0, h => by simp; exact Rels.nil
  | x :: xs, vs, n + 1, h => by
    obtain ⟨w, us, rfl, p, q⟩ := h.cons_inv
    exact Rels.cons p (Rels.take n q)
theorem Rels.drop : ∀ {xs : List PV} {vs : List V} (n : Nat), Rels K B ρ H xs vs → Rels K B ρ H (xs.drop n) (vs.drop n)
  | [], vs, n, h => by rw [h.nil_inv]; simp; exact Rels.nil
  | x :: xs, vs, 0, h => by simpa using h
  | x :: xs, vs, n + 1, h => by
    obtain ⟨w, us, rfl, p, q⟩ := h.cons_inv
    exact Rels.drop n q
theorem Rels.set : ∀ {xs : List PV} {vs : List V} (i : Nat) {x : PV} {v : V}, Rels K B ρ H xs vs → Rel K B ρ H x v → Rels K B ρ H (xs.set i x) (vs.set i v)
  | [], vs, i, x, v, h, r => by rw [h.nil_inv]; simp; exact Rels.nil
  | y :: xs, vs, 0, x, v, h, r => by
    obtain ⟨w, us, rfl, p, q⟩ := h.cons_inv
    exact Rels.cons r q
  | y :: xs, vs, i + 1, x, v, h, r => by
    obtain ⟨w, us, rfl, p, q⟩ := h.cons_inv
    exact Rels.cons p (Rels.set i q r)
theorem Rels.eraseIdx : ∀ {xs : List PV} {vs : List V} (i : Nat), Rels K B ρ H xs vs → Rels K B ρ H (xs.eraseIdx i) (vs.eraseIdx i)
  | [], vs, i, h => by rw [h.nil_inv]; simp; exact Rels.nil
  | y :: xs, vs, 0, h => by
    obtain ⟨w, us, rfl, p, q⟩ := h.cons_inv
    exact q
  | y :: xs, vs, i + 1, h => by
    obtain ⟨w, us, rfl, p, q⟩ := h.cons_inv
    exact Rels.cons p (Rels.eraseIdx i q)
theorem Rels.flat_rep {xs : List PV} {vs : List V} (n : Nat) (h : Rels K B ρ H xs vs) : Rels K B ρ H (List.replicate n xs).flatten (List.replicate n vs).flatten := by
  induction n with
  | zero => simp; exact Rels.nil
  | succ n ih => rw [List.replicate_succ, List.replicate_succ, List.flatten_cons, List.flatten_cons]; exact h.append ih
theorem SR.free {a : Addr} (s : SR K B ρ h H) (f : H a = none) : a ∉ ρ := by
  intro m
  obtain ⟨i, hi, e⟩ := List.mem_iff_getElem.mp m
  have hl : i < h.length := by rw [← s.len]; exact hi
  have q := s.ob i h[i] a (List.getElem?_eq_getElem hl) (by rw [List.getElem?_eq_getElem hi, e])
  cases ho : h[i] with
  | lst xs => rw [ho] at q; obtain ⟨vs, r, _⟩ := q; rw [f] at r; cases r
  | dct ks ws => rw [ho] at q; obtain ⟨vs, r, _⟩ := q; rw [f] at r; cases r
theorem SR.notup {a : Addr} {vs : List V} (s : SR K B ρ h H) (m : a ∈ ρ) (f : TupK H a vs) : False := by
  obtain ⟨o0, _, _, f⟩ := f
  obtain ⟨i, hi, e⟩ := List.mem_iff_getElem.mp m
  have hl : i < h.length := by rw [← s.len]; exact hi
  have q := s.ob i h[i] a (List.getElem?_eq_getElem hl) (by rw [List.getElem?_eq_getElem hi, e])
  cases ho : h[i] with
  | lst xs => rw [ho] at q; obtain ⟨vs, r, _⟩ := q; rw [f] at r; cases r
  | dct ks ws => rw [ho] at q; obtain ⟨vs, r, _⟩ := q; rw [f] at r; cases r
theorem SR.notB {a : Addr} (s : SR K B ρ h H) (f : H a = none) : ¬ B a := fun b => by
  obtain ⟨o, e⟩ := (s.bnd a b).2
  rw [f] at e; cases e
theorem SR.at {i : Nat} {o : Ob} (s : SR K B ρ h H) (e : h[i]? = some o) : ∃ a, ρ[i]? = some a ∧ ObR K B ρ H a o := by
  have hl := (List.getElem?_eq_some_iff.mp e).1
  have hr : i < ρ.length := by rw [s.len]; exact hl
  exact ⟨ρ[i], List.getElem?_eq_getElem hr, s.ob i o _ e (List.getElem?_eq_getElem hr)⟩
theorem ObR.mono {a : Addr} {o : Ob} (e : Ext ρ H ρ' H') (k : H' a = H a) (q : ObR K B ρ H a o) : ObR K B ρ' H' a o := by
  cases o with
  | lst xs => obtain ⟨vs, r, z, q⟩ := q; exact ⟨vs, k.trans r, z, q.mono e⟩
  | dct ks ws => obtain ⟨kvs, r, z, k', q⟩ := q; exact ⟨kvs, k.trans r, z, k', q.mono e⟩
/-- a new object, none of ours -/
theorem TupK.ne {p : Addr} {o : HO} {a : Addr} {vs : List V} (e : TupK H a vs) (n : a ≠ p) : TupK (upd H p o) a vs := by
  obtain ⟨u, c, d, e⟩ := e
  exact ⟨u, c, d, by rw [upd_ne n]; exact e⟩
theorem TupK.new {p : Addr} {o : HO} {a : Addr} {vs : List V} (e : TupK H a vs) (f : H p = none) : TupK (upd H p o) a vs := by
  have e' := e
  obtain ⟨u, c, d, e'⟩ := e'
  exact e.ne (ne_of_none e' f)
theorem Ext.new {p : Addr} {o : HO} (f : H p = none) : Ext ρ H ρ (upd H p o) := by
  refine ⟨⟨[], by simp⟩, fun a u e n => ⟨?_, n⟩, fun a vs e => ?_⟩
  · rw [upd_ne (ne_of_none e f)]; exact e
  · exact e.new f
theorem SR.new {p : Addr} {o : HO} (s : SR K B ρ h H) (f : H p = none) : SR K B ρ h (upd H p o) :=
  ⟨s.len, s.nd, fun a b => ⟨(s.bnd a b).1, by
      obtain ⟨o', e⟩ := (s.bnd a b).2
      exact ⟨o', by rw [upd_ne (ne_of_none e f)]; exact e⟩⟩, fun i u a e r => (s.ob i u a e r).mono (Ext.new f) (upd_ne (by
    intro q; subst q
    exact s.free f (List.mem_of_getElem? r)))⟩
/-- .. ours from now on -/
theorem Ext.own {p : Addr} {o : HO} (f : H p = none) : Ext ρ H (ρ ++ [p]) (upd H p o) := by
  refine ⟨⟨[p], rfl⟩, fun a u e n => ?_, fun a vs e => ?_⟩
  · have np := ne_of_none e f
    exact ⟨by rw [upd_ne np]; exact e, by simp [n, np]⟩
  · exact e.new f
/-- a frozen thing that is known of nowhere becomes ours -/
theorem Ext.adopt {H0 : Hp} {ρ0 : List Addr} {p : Addr} (e : Ext ρ0 H0 ρ H) (f : H0 p = none) : Ext ρ0 H0 (ρ ++ [p]) H := by
  refine ⟨?_, fun a u q n => ?_, e.tup⟩
  · obtain ⟨t, rfl⟩ := e.pre
    exact ⟨t ++ [p], by simp⟩
  · obtain ⟨h1, h2⟩ := e.keep a u q n
    exact ⟨h1, by simp [h2, ne_of_none q f]⟩
/-- what is ours is written -/
theorem Ext.write {a : Addr} {o : HO} (s : SR K B ρ h H) (m : a ∈ ρ) : Ext ρ H ρ (upd H a o) := by
  refine ⟨⟨[], by simp⟩, fun b u e n => ⟨?_, n⟩, fun b vs e => ?_⟩
  · rw [upd_ne (by rintro rfl; exact n m)]; exact e
  · exact e.ne (by rintro rfl; exact s.notup m e)
theorem SR.write {i : Nat} {a : Addr} {u : HO} {o : Ob} (s : SR K B ρ h H) (r : ρ[i]? = some a) (q : ObR K B ρ (upd H a u) a o) : SR K B ρ (h.set i o) (upd H a u) := by
  have m : a ∈ ρ := List.mem_of_getElem? r
  refine ⟨by simp [s.len], s.nd, fun b hb => ⟨(s.bnd b hb).1, ?_⟩, fun j u' b e rb => ?_⟩
  · obtain ⟨o', e⟩ := (s.bnd b hb).2
    exact ⟨o', by rw [upd_ne (by rintro rfl; exact (s.bnd b hb).1 m)]; exact e⟩
  by_cases hij : i = j
  · subst hij
    rw [r] at rb
    cases rb
    have hl : i < h.length := by rw [← s.len]; exact (List.getElem?_eq_some_iff.mp r).1
    rw [List.getElem?_set_self hl] at e
    cases e
    exact q
  · rw [List.getElem?_set_ne hij] at e
    refine (s.ob j u' b e rb).mono (Ext.write s m) (upd_ne ?_)
    rintro rfl
    obtain ⟨h1, e1⟩ := List.getElem?_eq_some_iff.mp r
    obtain ⟨h2, e2⟩ := List.getElem?_eq_some_iff.mp rb
    exact hij ((List.getElem_inj s.nd).mp (e1.trans e2.symm))
theorem SR.fresh_back {p : Addr} {ρ1 : List Addr} {H1 : Hp} {h1 : Hh} (s : SR K B ρ h H) (s1 : SR K B ρ1 h1 H1) (e : Ext ρ H ρ1 H1) (f : H1 p = none) : H p = none := by
  cases q : H p with
  | none => rfl
  | some o =>
    by_cases m : p ∈ ρ
    · exfalso
      obtain ⟨t, rfl⟩ := e.pre
      exact s1.free f (by simp [m])
    · have := (e.keep p o q m).1
      rw [f] at this; cases this
end

/-! ### slots -/
section
variable (K : KF) (B : Addr → Prop)
def EnvR (ρ : List Addr) (H : Hp) (env : Ev) (σ : L2.St) : Prop :=
  env.length = σ.length ∧ ∀ (i : Nat) (p : PV), env[i]? = some (some p) → ∃ v, σ[i]? = some (some v) ∧ Rel K B ρ H p v
end
section
variable {K : KF} {B : Addr → Prop} {ρ ρ' : List Addr} {H H' : Hp} {h h' : Hh} {env : Ev} {σ : L2.St}
theorem EnvR.mono (e : Ext ρ H ρ' H') (r : EnvR K B ρ H env σ) : EnvR K B ρ' H' env σ :=
  ⟨r.1, fun i p q => let ⟨v, a, b⟩ := r.2 i p q; ⟨v, a, b.mono e⟩⟩
theorem EnvR.set {i : Nat} {p : PV} {v : V} (r : EnvR K B ρ H env σ) (q : Rel K B ρ H p v) : EnvR K B ρ H (env.set i (some p)) (σ.set i (some v)) := by
  refine ⟨by simp [r.1], fun j p' e => ?_⟩
  by_cases hij : i = j
  · subst hij
    have hl : i < env.length := by
      have := (List.getElem?_eq_some_iff.mp e).1
      simpa using this
    rw [List.getElem?_set_self hl] at e
    cases e
    exact ⟨v, by rw [List.getElem?_set_self (by rw [← r.1]; exact hl)], q⟩
  · rw [List.getElem?_set_ne hij] at e ⊢
    exact r.2 j p' e
theorem EnvR.unset {i : Nat} (r : EnvR K B ρ H env σ) : EnvR K B ρ H (env.set i none) (σ.set i none) := by
  refine ⟨by simp [r.1], fun j p' e => ?_⟩
  by_cases hij : i = j
  · subst hij
    have hl : i < env.length := by
      have := (List.getElem?_eq_some_iff.mp e).1
      simpa using this
    rw [List.getElem?_set_self hl] at e
    cases e
  · rw [List.getElem?_set_ne hij] at e ⊢
    exact r.2 j p' e
theorem EnvR.wipe (r : EnvR K B ρ H env σ) : ∀ vs : List Nat, EnvR K B ρ H (Y.wipe env vs) (L2.wipe σ vs)
  | [] => r
  | v :: vs => (EnvR.wipe r vs).unset
end

/-! ### what a run leaves -/
section
variable (K : KF) (B : Addr → Prop) {α β : Type}
/-- xs: what is wanted of an exception -/
abbrev XW := Nat → List PV → List Addr → Hp → Prop
def Post (xw : XW) (ρ : List Addr) (H : Hp) (r : R α) (Φ : α → Hh → List Addr → Hp → Prop) : Prop :=
  match r with
  | .ok a h' => ∀ ρ' H', Ext ρ H ρ' H' → SR K B ρ' h' H' → Φ a h' ρ' H'
  | .ex c fs h' => ∀ ρ' H', Ext ρ H ρ' H' → SR K B ρ' h' H' → xw c fs ρ' H'
  | .err => False
end
section
variable {K : KF} {B : Addr → Prop} {α β : Type} {xw : XW} {ρ ρ1 : List Addr} {H H1 : Hp} {r : R α} {Φ Ψ : α → Hh → List Addr → Hp → Prop}
theorem Post.base (e : Ext ρ H ρ1 H1) (p : Post K B xw ρ H r Φ) : Post K B xw ρ1 H1 r Φ := by
  cases r with
  | ok a h => exact fun ρ' H' e' s => p ρ' H' (e.trans e') s
  | ex c fs h => exact fun ρ' H' e' s => p ρ' H' (e.trans e') s
  | err => exact p
theorem Post.imp (p : Post K B xw ρ H r Φ) (f : ∀ a h' ρ' H', Ext ρ H ρ' H' → SR K B ρ' h' H' → Φ a h' ρ' H' → Ψ a h' ρ' H') : Post K B xw ρ H r Ψ := by
  cases r with
  | ok a h => exact fun ρ' H' e' s => f a h ρ' H' e' s (p ρ' H' e' s)
  | ex c fs h => exact p
  | err => exact p
theorem Post.bind {m : M α} {k : α → M β} {h : Hh} {Φ : β → Hh → List Addr → Hp → Prop} (p : Post K B xw ρ H ((m >>= k) h) Φ) :
    Post K B xw ρ H (m h) (fun a h1 ρ1 H1 => Post K B xw ρ1 H1 (k a h1) Φ) := by
  have e : (m >>= k) h = (match m h with | .ok a h' => k a h' | .ex c fs h' => .ex c fs h' | .err => .err) := rfl
  rw [e] at p
  cases q : m h with
  | ok a h1 =>
    rw [q] at p
    exact fun ρ1 H1 e1 s1 => Post.base e1 p
  | ex c fs h1 =>
    rw [q] at p
    exact p
  | err =>
    rw [q] at p
    exact p
theorem Post.pure {a : α} {h : Hh} (p : Post K B xw ρ H ((Pure.pure a : M α) h) Φ) (s : SR K B ρ h H) : Φ a h ρ H := p ρ H (Ext.refl _ _) s
theorem Post.lift {o : Option α} {h : Hh} (p : Post K B xw ρ H (lift o h) Φ) (s : SR K B ρ h H) : ∃ a, o = some a ∧ Φ a h ρ H := by
  cases o with
  | none => exact p.elim
  | some a => exact ⟨a, rfl, p ρ H (Ext.refl _ _) s⟩
end
end Y

/-! K2b: tuples whose object is known: made by displays, sums, slices, tuple(x), tuple(range(..)) -/
namespace Y
open PySem PySem.Spec PyProof.Rows L2
section
variable {X : Cx}
/-- a new tuple, its object known -/
def NewT (H : Hp) (xs : List V) (Q : VK) : Prop := ∀ (p : Addr) (o : Obj), o.cls = .type "tuple" → o.dict = none → H p = none → Q (.ref p) (upd H p (.frz o (.tup xs)))
theorem newT_laid {pins : List (Addr × Obj)} {s : Shared} {σ : L2.St} {H : Hp} {xs : List V} {its : List Value} {n tk : Nat} {Q : VK} (I : Inv X pins σ H s) (rv : Vals xs its) (zz : xs.length ≤ sizeLine) (q : NewT H xs Q) :
    EP X pins σ Q (.ref s.heap.objs.size) { s with heap := s.heap.push { cls := .type "tuple", data := .seq its.toArray n }, toks := tk } := by
  have ok : ObjOk X.prog X.w (upd H s.heap.objs.size (.frz { cls := .type "tuple", data := .seq its.toArray n } (.tup xs))) (s.heap.push { cls := .type "tuple", data := .seq its.toArray n }) s.heap.objs.size (.frz { cls := .type "tuple", data := .seq its.toArray n } (.tup xs)) :=
    ⟨Heap.get?_push_size _ rfl, zz, its, rv, ⟨_, Heap.get?_push_size _ rfl, rfl, _, rfl⟩⟩
  exact ⟨.ref s.heap.objs.size, _, I.laid (t' := tk) (fun b u e => Heap.get?_push_of_some _ e) (Nat.le_refl _) ok, rfl, q _ _ rfl rfl (I.hok.fresh (Nat.le_refl _))⟩
def tTupN (t : TA) : TE := fun σ H Q => t σ H fun xs H1 => xs.length ≤ sizeLine ∧ NewT H1 xs Q
theorem pe_tupN {es : List Expr} {k : Nat} {pos : Pos} {t : TA} (ht : PA X es t) : PE X (.Tuple es k pos) (tTupN t) :=
  ⟨fun pins s σ H Q I hq => wpAny_Tuple_spliced (thn (ht.run pos pins s σ H _ I hq) fun us s1 ⟨xs, H1, I1, rv, zz, q⟩ => ⟨by rw [← rv.length]; exact zz, newT_laid I1 rv zz q⟩)⟩
def rCatN (K : PySem.W.Frag) : R2 := fun x y H Q => ∃ a b xs ys, x = .ref a ∧ y = .ref b ∧ SqT K H a xs ∧ SqT K H b ys ∧ xs.length + ys.length ≤ sizeLine ∧ (xs = [] → Q (.ref b) H) ∧ (xs ≠ [] → ys = [] → Q (.ref a) H) ∧ (xs ≠ [] → ys ≠ [] → NewT H (xs ++ ys) Q)
theorem op_catN : OpR X (binaryOp .Add) (rCatN X.K) := by
  intro pins s σ H x y v u Q I rx ry ⟨a, b, xs, ys, ex, ey, ha, hb, hz, q0, q1, q2⟩
  subst ex ey
  by_cases hx : xs = []
  · exact op_catA pins s σ H _ _ v u Q I rx ry ⟨a, b, xs, ys, rfl, rfl, ha, hb, hz, q0, q1, fun n => absurd hx n⟩
  · cases rx
    cases ry
    obtain ⟨its, rv, pa, _⟩ := I.tuple ha
    obtain ⟨jts, rw_, pb, _⟩ := I.tuple hb
    refine HT.cat_tup pa pb (fun z => hx (rv.nil_iff.mp z)) (fun z => ⟨.ref a, H, I, rfl, q1 hx (rw_.nil_iff.mp z)⟩) (fun z => ?_) (by rw [← rv.length, ← rw_.length]; exact hz)
    exact newT_laid (tk := s.toks) I (rv.append rw_) (by rw [List.length_append]; exact hz) (q2 hx fun w => z (rw_.nil_iff.mpr w))
def rSlN (K : PySem.W.Frag) : V → Option Int → Option Int → Hp → VK → Prop := fun x lo hi H Q => ∃ a xs, x = .ref a ∧ SqT K H a xs ∧
  (HT.sIx xs.length 0 lo = 0 ∧ HT.sIx xs.length xs.length hi = xs.length → Q (.ref a) H) ∧ (¬ (HT.sIx xs.length 0 lo = 0 ∧ HT.sIx xs.length xs.length hi = xs.length) → NewT H (cutV xs lo hi) Q)
theorem sl_tupN : SlR X (rSlN X.K) := by
  intro pins s σ H x v vl vu lo hi sl Q I rx hs pl pu ⟨a, xs, ex, hx, q1, q2⟩
  subst ex
  by_cases hw : HT.sIx xs.length 0 lo = 0 ∧ HT.sIx xs.length xs.length hi = xs.length
  · exact sl_tupA pins s σ H _ v vl vu lo hi sl Q I rx hs pl pu ⟨a, xs, rfl, hx, q1, fun n => absurd hw n⟩
  · cases rx
    obtain ⟨its, rv, ht, hz⟩ := I.tuple hx
    have hl : its.toArray.size = xs.length := by rw [List.size_toArray]; exact rv.length.symm
    refine ⟨"tuple", _, PyProof.Rows.slot_tuple_getitem.lookup, ht.typeIs, HT.getItem_tuple_cut ht hs pl pu (by rw [hl]; exact hw) ?_ (by rw [hl]; exact hz)⟩
    rw [hl]
    exact newT_laid (tk := s.toks) I ((rv.drop (HT.sIx xs.length 0 lo)).take (HT.sIx xs.length xs.length hi - HT.sIx xs.length 0 lo)) (Nat.le_trans (cutV_length xs lo hi) hz) (q2 hw)
theorem call_tupleN : CallR X (.type "tuple") (fun xs H Q => ∃ p ys, xs = [.ref p] ∧ ((SqL X.K H p ys ∧ NewT H ys Q) ∨ (SqT X.K H p ys ∧ Q (.ref p) H))) := by
  intro pins s σ H xs us Q I rs ⟨p, ys, ex, h⟩
  subst ex
  obtain ⟨u, rfl, rx⟩ := vals1 rs
  cases rx
  rcases h with ⟨hq, q⟩ | ⟨hq, q⟩
  · obtain ⟨its, rv, pl, hz⟩ := I.list hq
    have hl := rv.length
    refine call_tuple_list pl.isList (fun h' kp => ?_) (by simp only [List.size_toArray] <;> omega)
    exact newT_laid (tk := s.toks) (s := { s with heap := h' }) (I.kept (t' := s.toks) kp) rv hz q
  · obtain ⟨its, rv, pl, hz⟩ := I.tuple hq
    exact call_tuple_same pl ⟨.ref p, H, I, rfl, q⟩
/-- an expression that makes a range of any step -/
def PRc (X : Cx) (e : Expr) (t : L2.St → Hp → (Int → Int → Int → Hp → Prop) → Prop) : Prop :=
  ∀ (pins : List (Addr × Obj)) (s : Shared) (σ : L2.St) (H : Hp) (Q : Int → Int → Int → Hp → Prop), Inv X pins σ H s → t σ H Q →
    wpAny (model X.prog X.w) X.A (eval e X.env) (fun x s' => ∃ r a b c t u v H', x = .ref r ∧ IsRange s'.heap r a b c t u v ∧ Inv X pins σ H' s' ∧ Q a b c H') X.xe s
theorem prc_of {e : Expr} {t : L2.St → Hp → (Int → Int → Hp → Prop) → Prop} (h : PRg X e t) : PRc X e (fun σ H Q => t σ H fun a b H1 => Q a b 1 H1) :=
  fun pins s σ H Q I q => wpAny_mono (h pins s σ H _ I q) (fun x s' ⟨r, a, b, t, u, v, H', ex, hr, J, w⟩ => ⟨r, a, b, 1, t, u, v, H', ex, hr, J, w⟩) fun _ _ z => z
def rgC (a c : Int) (n : Nat) : List V := (List.range n).map fun i => V.int (a + (i : Nat) * c)
theorem rgC_len (a c : Int) (n : Nat) : (rgC a c n).length = n := by unfold rgC; rw [List.length_map, List.length_range]
theorem vals_rgC {a c : Int} {n : Nat} {acc : Array Value} (h : ItemsOf (fun i v => ∃ t, v = .int (a + i * c) t) acc n) : Vals (rgC a c n) acc.toList := by
  have hl : acc.toList.length = n := by simpa using h.1
  have e : rgC a c n = (List.range acc.toList.length).map fun i => V.int (a + (i : Nat) * c) := by unfold rgC; rw [hl]
  rw [e]
  refine vals_of_get _ _ fun j u hj => ?_
  have hj' : acc[j]? = some u := by simpa using hj
  obtain ⟨t, ht⟩ := h.2 j u hj'
  exact ⟨t, ht⟩
def tTupRc (te : L2.St → Hp → (Int → Int → Int → Hp → Prop) → Prop) : TE := fun σ H Q => te σ H fun a b c H1 => ∃ n : Nat, Builtin.Range.small a b c = true ∧ Builtin.Range.rangeSize a b c = n ∧ n ≤ 2 ^ 24 ∧ NewT H1 (rgC a c n) Q
theorem pe_tupRc {e : Expr} {te : L2.St → Hp → (Int → Int → Int → Hp → Prop) → Prop} {p pos : Pos} (hc : X.calm = true) (hg : Gl X "tuple") (hm : X.mg "tuple" = none) (he : PRc X e te) (na : starEach [e] X.env = (false, eval e X.env) :: starEach [] X.env) : PE X (.Call (.Name "tuple" p) [e] [] pos) (tTupRc te) := by
  refine ⟨fun pins s σ H Q I h => Call_ (ld_blt I hg hm boot_tuple (PyProof.Rows.callWith_type1 (args_cons (thn (he pins s σ H _ I h) fun x s1 ⟨r, a, b, c, t, u, v, H1, ex, hr, I1, n, b1, b2, b3, q⟩ => args_nil ?_) na) na))⟩
  subst ex
  refine call_tuple_range (n := n) (I1.ok.hd hc) hr b1 b2 b3 fun h' tk acc hk hi => ?_
  have I2 : Inv X pins σ H1 { s1 with heap := h', toks := tk } := I1.kept hk
  have rv := vals_rgC hi
  have zz : (rgC a c n).length ≤ sizeLine := by rw [rgC_len, sizeLine_eq]; omega
  have ea : acc = acc.toList.toArray := by simp
  rw [ea]
  exact newT_laid (n := 0) (tk := tk) I2 rv zz q
end
end Y

set_option maxHeartbeats 4000000
/-! K2c: a tuple, so many times: the new object known -/
namespace Y
open PySem PySem.Spec PyProof.Rows L2
variable {X : Cx}
def rRepN (K : PySem.W.Frag) : R2 := fun x y H Q => ∃ a m xs, x = .ref a ∧ y = .int m ∧ SqT K H a xs ∧ xs ≠ [] ∧ 2 ≤ m ∧ m ≤ 1000 ∧ xs.length ≤ 1000 ∧ NewT H (List.replicate m.toNat xs).flatten Q
/-- the numbers that the making looks at -/
structure RepOk (us : List Value) (m : Int) : Prop where
  small : (decide (m < -(2 ^ 63)) || decide (m ≥ 2 ^ 63)) = false
  one : (us.toArray.isEmpty || m == 1) = false
  pos : (decide (m ≤ 0) || us.toArray.isEmpty) = false
  many : ((us.toArray.size : Nat) : Int) * m ≤ 1000000
  few : Builtin.Tuple.tupleTooMany (((us.toArray.size : Nat) : Int) * m) = false
  len : (List.replicate m.toNat us).flatten.length ≤ sizeLine
theorem repOk {us : List Value} {m : Int} (n0 : us ≠ []) (m2 : 2 ≤ m) (m3 : m ≤ 1000) (hl : us.length ≤ 1000) : RepOk us m := by
  have full : us.toArray.isEmpty = false := by cases us <;> first | exact absurd rfl n0 | rfl
  have prod : ((us.toArray.size : Nat) : Int) * m ≤ 1000000 := by
    rw [List.size_toArray]
    calc ((us.length : Nat) : Int) * m ≤ 1000 * m := Int.mul_le_mul_of_nonneg_right (by omega) (by omega)
      _ ≤ 1000000 := by omega
  have mn : ¬ m = 1 := by omega
  refine ⟨?_, ?_, ?_, prod, ?_, ?_⟩
  · simp only [Bool.or_eq_false_iff, decide_eq_false_iff_not]
    constructor <;> omega
  · rw [full]; simpa using mn
  · rw [full]; simp; omega
  · unfold Builtin.Tuple.tupleTooMany
    rw [sizeLine_eq, decide_eq_false_iff_not]
    omega
  · have e : (List.replicate m.toNat us).flatten.length = m.toNat * us.length := by
      rw [List.length_flatten, List.map_replicate, List.sum_replicate_nat]
    have := Nat.mul_le_mul (show m.toNat ≤ 1000 by omega) hl
    rw [e, sizeLine_eq]
    omega
theorem vals_rep {xs : List V} {us : List Value} (r : Vals xs us) : ∀ n : Nat, Vals (List.replicate n xs).flatten (List.replicate n us).flatten
  | 0 => .nil
  | n + 1 => by
    rw [List.replicate_succ, List.replicate_succ, List.flatten_cons, List.flatten_cons]
    exact r.append (vals_rep r n)
theorem op_repN : OpR X (binaryOp .Mult) (rRepN X.K) := by
  intro pins s σ H x y v u Q I rx ry hw
  obtain ⟨a, m, xs, rfl, rfl, sq, n0, m2, m3, hl, q⟩ := hw
  cases rx
  obtain ⟨tk, rfl⟩ := ry
  obtain ⟨us, rv, ⟨ob, hget, hcls, nn, hdat⟩, hsz⟩ := I.tuple sq
  obtain ⟨oc, od, odat, osl⟩ := ob
  change oc = _ at hcls
  change odat = _ at hdat
  subst hcls hdat
  have ln : us.length = xs.length := rv.length.symm
  have N := repOk (us := us) (m := m) (by rintro rfl; exact n0 (List.eq_nil_of_length_eq_zero ln.symm)) m2 m3 (by omega)
  have fin := newT_laid (tk := s.toks) (n := 0) I (vals_rep rv m.toNat) (by rw [(vals_rep rv m.toNat).length]; exact N.len) q
  have sz : (List.foldl (fun b c => b ++ c) #[] (List.replicate m.toNat us.toArray)) = (List.replicate m.toNat us).flatten.toArray := size_rep us m.toNat
  have own : s.TypeIs (.ref a) "tuple" := ⟨_, hget, rfl⟩
  have made := tuple_mulW a us.toArray nn od osl m tk N.small N.one N.pos
    (by have := N.many; omega) N.few (by rw [sz]; exact N.len)
  have no := int_rmul_tuple m tk a us.toArray nn od osl
  refine wpAny_binaryOp_repeat_ref (U := "int") (by decide) own (fun g => typeIs_int g m tk)
    noFill_tuple_mul F.fills_int_mul F.slot_int_rmul repeat_tuple F.slot_int_index.lookup ?_
  refine call_meets F.slot_int_rmul (typeIs_int s m tk) F.entry_int_rmul (F.args_int_rmul_2 _ _) no ?_
  refine ⟨hget, rfl, own, ?_⟩
  refine call_meets F.slot_tuple_mul own F.entry_tuple_mul (F.args_tuple_mul_2 _ _) made ?_
  refine ⟨hget, ?_⟩
  rw [sz]
  exact fin
end Y

set_option maxHeartbeats 4000000
/-! K2d: list(text), an empty tuple so many times -/
namespace Y
open PySem PySem.Spec PyProof.Rows L2
variable {X : Cx}
/-- the signs of a text, as values -/
def sgV (z : Str) : List V := z.cps.toList.map fun c => V.str ⟨#[c]⟩
theorem signs_vals {z : Str} {acc : Array Value} (h : ItemsOf (SignAt z) acc z.cps.size) : Vals (sgV z) acc.toList := by
  obtain ⟨hn, hv⟩ := h
  have go : ∀ (xs : List Nat) (us : List Value), us.length = xs.length → (∀ (j : Nat) (u : Value), us[j]? = some u → ∃ c t, xs[j]? = some c ∧ u = .str ⟨#[c]⟩ t) → Vals (xs.map fun c => V.str ⟨#[c]⟩) us := by
    intro xs
    induction xs with
    | nil => intro us hl _; cases us with | nil => exact .nil | cons a b => exact absurd hl (by simp)
    | cons x xs ih =>
      intro us hl h
      cases us with
      | nil => exact absurd hl (by simp)
      | cons u us =>
        obtain ⟨c, t, e1, e2⟩ := h 0 u rfl
        cases e1
        exact .cons ⟨t, e2⟩ (ih us (by simpa using hl) fun j v hj => h (j + 1) v (by simpa using hj))
  refine go z.cps.toList acc.toList (by simpa using hn) fun j u hj => ?_
  obtain ⟨c, t, e1, e2⟩ := hv j u (by simpa using hj)
  exact ⟨c, t, by simpa using e1, e2⟩
theorem call_list_txt (hc : X.calm = true) : CallR X (.type "list") (fun xs H Q => ∃ z : Str, xs = [.str z] ∧ z.cps.size ≤ sizeLine ∧ ∀ l, H l = none → Q (.ref l) (upd H l (.lst (sgV z)))) := by
  intro pins s σ H xs us Q I r h
  obtain ⟨z, rfl, hz, q⟩ := h
  obtain ⟨u, rfl, rx⟩ := vals1 r
  obtain ⟨t, rfl⟩ := rx
  refine call_list_str (hn := hz) (I.ok.hd hc) z t fun h' tk acc c' kp e hi => ?_
  refine ⟨.ref s.heap.objs.size, _, I.laid (t' := tk) kp (Nat.le_refl _) (show ObjOk X.prog X.w _ h' _ (.lst (sgV z)) from ⟨?_, acc.toList, c', signs_vals hi, ?_⟩), rfl, q _ (I.hok.fresh (Nat.le_refl _))⟩
  · rw [show (sgV z).length = z.cps.size by simp [sgV]]; exact hz
  · simpa using e
/-! an empty tuple -/
theorem tuple_mulE (l : Addr) (n : Nat) (dd : Option Addr) (sl : Array (Option Value)) (x : Int) (u : Tok) (c0 : (decide (x < -(2 ^ 63)) || decide (x ≥ 2 ^ 63)) = false) :
    Meets (Builtin.«tuple.__mul__» ⟨[.ref l, .int x u], []⟩) (fun _ R s => s.heap.get? l = some { cls := .type "tuple", dict := dd, data := .seq #[] n, slots := sl } ∧
      R (.ok (.ret (Value.ref l))) s) :=
  .of_wp fun prog w A R s h => by
    obtain ⟨hp, g, d, tk, os⟩ := s
    obtain ⟨hl, h⟩ := h
    have f1 := AutoSeq1.idx_int
    wp_walk using AutoSeq1.wpAny_loadPart' hl
    repeat (first
      | (refine wpAny_ite_false (decide_eq_false (by rw [c0]; exact Bool.false_ne_true)) ?_; wp_walk using AutoSeq1.wpAny_loadPart' hl)
      | (refine wpAny_ite_true (by rfl) ?_; wp_walk using AutoSeq1.wpAny_loadPart' hl))
    exact ⟨_, rfl, h⟩
def rRepE (K : PySem.W.Frag) : R2 := fun x y H Q => ∃ a m, x = .ref a ∧ y = .int m ∧ SqT K H a [] ∧ -(2 ^ 63) ≤ m ∧ m < 2 ^ 63 ∧ Q (.ref a) H
theorem op_repE : OpR X (binaryOp .Mult) (rRepE X.K) := by
  intro pins s σ H x y v u Q I rx ry hw
  obtain ⟨a, m, rfl, rfl, sq, m2, m3, q⟩ := hw
  cases rx
  obtain ⟨tk, rfl⟩ := ry
  obtain ⟨us, rv, ⟨ob, hget, hcls, nn, hdat⟩, hsz⟩ := I.tuple sq
  cases rv
  obtain ⟨oc, od, odat, osl⟩ := ob
  change oc = _ at hcls
  change odat = _ at hdat
  subst hcls hdat
  have own : s.TypeIs (.ref a) "tuple" := ⟨_, hget, rfl⟩
  have small : (decide (m < -(2 ^ 63)) || decide (m ≥ 2 ^ 63)) = false := by
    simp only [Bool.or_eq_false_iff, decide_eq_false_iff_not]
    constructor <;> omega
  have made := tuple_mulE a nn od osl m tk small
  have no := int_rmul_tuple m tk a #[] nn od osl
  refine wpAny_binaryOp_repeat_ref (U := "int") (by decide) own (fun g => typeIs_int g m tk)
    noFill_tuple_mul F.fills_int_mul F.slot_int_rmul repeat_tuple F.slot_int_index.lookup ?_
  refine call_meets F.slot_int_rmul (typeIs_int s m tk) F.entry_int_rmul (F.args_int_rmul_2 _ _) no ?_
  refine ⟨hget, rfl, own, ?_⟩
  refine call_meets F.slot_tuple_mul own F.entry_tuple_mul (F.args_tuple_mul_2 _ _) made ?_
  exact ⟨hget, ⟨.ref a, H, I, rfl, q⟩⟩
/-! a list taking a tuple's items -/
theorem list_extend_tupW (l : Addr) (items : Array Value) (n : Nat) (b : Addr) (items2 : Array Value) (n2 : Nat) (dd : Option Addr) (sl : Array (Option Value)) (hs0 : ¬(!items.isEmpty && Builtin.List.listTooLong (items.size + items2.size)) = true) (hs1 : items.size ≤ sizeLine) (hs2 : items.size + items2.size ≤ sizeLine + 1) :
    Meets (Builtin.«list.extend» ⟨[.ref l, .ref b], []⟩) (fun _ R s => (s.heap.get? l = some { cls := .type "list", dict := none, data := .seq items n, slots := #[] } ∧ s.heap.get? b = some { cls := .type "tuple", dict := dd, data := .seq items2 n2, slots := sl }) ∧ R (.ok (.ret Value.none)) { s with heap := s.heap.update l (Obj.mapSeq fun x => x ++ items2), toks := s.toks }) :=
  .of_wp fun prog w A R s h => by
    obtain ⟨hp, g, d, tk, os⟩ := s
    obtain ⟨⟨hl, hb⟩, h⟩ := h
    have s1 := AutoSeq1.sub_tuple_tuple
    have s2 := AutoSeq1.sub_list_list
    have s3 := AutoSeq1.sub_tuple_list
    have s4 := AutoSeq1.sub_list_tuple
    have fits : (items ++ items2).size ≤ sizeLine + 1 := by rw [Array.size_append]; exact hs2
    wp_walk using (wpAny_updateSeq hl rfl (hz := hs1) (_hz' := fits)), AutoSeq1.wpAny_loadPart' hl, AutoSeq1.wpAny_loadPart' hb
    exact ⟨_, rfl, h⟩
def rExtT (K : PySem.W.Frag) : V → List V → Hp → VK → Prop := fun x vs H Q => ∃ l b xs zs, x = .ref l ∧ vs = [.ref b] ∧ H l = some (.lst xs) ∧ SqT K H b zs ∧ xs.length + zs.length ≤ sizeLine ∧ Q .non (upd H l (.lst (xs ++ zs)))
theorem mt_extT : MtR X "list.extend" (rExtT X.K) := by
  intro pins s σ H x vs v us Q I rx rv hh
  obtain ⟨l, b, xs, zs, rfl, rfl, hH, sq, hz, q⟩ := hh
  cases rx
  obtain ⟨u, rfl, ru⟩ := rv.one
  cases ru
  obtain ⟨_, its, n, r, hl, e⟩ := I.lstM hH
  obtain ⟨its2, r2, ⟨ob, hget, hcls, nn, hdat⟩, _⟩ := I.tuple sq
  obtain ⟨oc, od, odat, osl⟩ := ob
  change oc = _ at hcls
  change odat = _ at hdat
  subst hcls hdat
  have hl2 := r2.length
  have hsz : its.toArray.size + its2.toArray.size ≤ sizeLine := by simp only [List.size_toArray]; omega
  have short : ¬ (!its.toArray.isEmpty && Builtin.List.listTooLong (its.toArray.size + its2.toArray.size)) = true := by
    rw [notLongL hsz, Bool.and_false]
    exact Bool.false_ne_true
  have made := list_extend_tupW l its.toArray n b its2.toArray nn od osl short (by omega) (by omega)
  refine call_meets F.slot_list_extend ⟨_, e, rfl⟩ F.entry_list_extend (F.args_list_extend_2 _ _) made ⟨⟨e, hget⟩, ?_⟩
  refine ⟨.non, _, I.lset (its' := its ++ its2) hH e (by simp) (r.append r2) ?_, rfl, q⟩
  rw [List.length_append]
  omega
end Y

/-! K3: operations by values -/
namespace Y
open PySem PySem.Spec PyProof.Rows L2

def opA : Op2 → Operator
  | .add => .Add | .sub => .Sub | .mul => .Mult | .fdiv => .FloorDiv | .mod => .Mod | .pow => .Pow | .shl => .LShift | .shr => .RShift | .and => .BitAnd | .or => .BitOr | .xor => .BitXor
def cmpA : Cmp → CmpOp
  | .eq => .Eq | .ne => .NotEq | .lt => .Lt | .le => .LtE | .gt => .Gt | .ge => .GtE | .isn => .Is | .notn => .IsNot | .inn => .In | .nin => .NotIn
def isL : PV → Bool
  | .lst _ => true | .dct _ _ => true | _ => false
theorem SZ_eq : sizeLine = SZ := by rw [sizeLine_eq]; rfl

section
variable {X : Cx} {B : Addr → Prop} {ρ : List Addr} {h : Hh} {H : Hp}
abbrev Rl (X : Cx) := Rel (kf X)
theorem Rel.int_inv {i : Int} {v : V} (r : Rel (kf X) B ρ H (.int i) v) : v = .int i := by simpa only [Rel] using r
theorem Rel.str_inv {i : Str} {v : V} (r : Rel (kf X) B ρ H (.str i) v) : v = .str i := by simpa only [Rel] using r
theorem Rel.bl_inv {i : Bool} {v : V} (r : Rel (kf X) B ρ H (.bl i) v) : v = .bl i := by simpa only [Rel] using r
theorem Rel.non_inv {v : V} (r : Rel (kf X) B ρ H .non v) : v = .non := by simpa only [Rel] using r
theorem Rel.tup_inv {l : List PV} {v : V} (r : Rel (kf X) B ρ H (.tup l) v) : ∃ a vs, v = .ref a ∧ (TupK H a vs ∨ KTup (kf X) a vs) ∧ vs.length ≤ SZ ∧ Rels (kf X) B ρ H l vs := by simpa only [Rel] using r
theorem Rel.lst_inv {l : List PV} {v : V} (r : Rel (kf X) B ρ H (.lst l) v) : ∃ a vs, v = .ref a ∧ Fz B ρ H a (.lst vs) ∧ vs.length ≤ SZ ∧ Rels (kf X) B ρ H l vs := by simpa only [Rel] using r
theorem Rel.scr_inv {l : List PV} {v : V} (r : Rel (kf X) B ρ H (.scr l) v) : ∃ a vs, v = .ref a ∧ ((∃ o, Fz B ρ H a (.frz o (.lst vs))) ∨ KLst (kf X) a vs) ∧ vs.length ≤ SZ ∧ Rels (kf X) B ρ H l vs := by simpa only [Rel] using r
theorem scr_sq {a : Addr} {vs : List V} (f : (∃ o, Fz B ρ H a (.frz o (.lst vs))) ∨ KLst (kf X) a vs) : SqL X.K H a vs := by
  rcases f with ⟨o, f⟩ | f
  · exact .inl (.inr ⟨o, f.1⟩)
  · exact .inr f
theorem Rel.dct_inv {ks ws : List PV} {v : V} (r : Rel (kf X) B ρ H (.dct ks ws) v) : ∃ a kvs, v = .ref a ∧ Fz B ρ H a (.dK kvs) ∧ kvs.length ≤ SZ ∧ ks = kvs.map (fun p => keyP p.1) ∧ Rels (kf X) B ρ H ws (kvs.map (·.2)) := by simpa only [Rel] using r
theorem Rel.ref_inv {i : Nat} {v : V} (r : Rel (kf X) B ρ H (.ref i) v) : ∃ a, ρ[i]? = some a ∧ v = .ref a := by simpa only [Rel] using r
theorem Rel.int_mk {i : Int} : Rel (kf X) B ρ H (.int i) (.int i) := by simp only [Rel]
theorem Rel.str_mk {i : Str} : Rel (kf X) B ρ H (.str i) (.str i) := by simp only [Rel]
theorem Rel.bl_mk {i : Bool} : Rel (kf X) B ρ H (.bl i) (.bl i) := by simp only [Rel]
theorem Rel.non_mk : Rel (kf X) B ρ H .non .non := by simp only [Rel]
theorem tup_sq {a : Addr} {vs : List V} (f : TupK H a vs ∨ KTup (kf X) a vs) : SqT X.K H a vs := by
  rcases f with ⟨o, _, _, f⟩ | ⟨o, its, n, f1, f2, f3, f4⟩
  · exact .inl (.inr ⟨o, f⟩)
  · exact .inr ⟨o, its, n, f1, f2, f4⟩
/-- a new tuple -/
theorem Rel.tup_new {p : Addr} {o : Obj} {l : List PV} {vs : List V} (oc : o.cls = .type "tuple") (od : o.dict = none) (s : SR (kf X) B ρ h H) (f : H p = none) (z : vs.length ≤ SZ) (r : Rels (kf X) B ρ H l vs) : Rel (kf X) B ρ (upd H p (.frz o (.tup vs))) (.tup l) (.ref p) := by
  simp only [Rel]
  exact ⟨p, vs, rfl, .inl ⟨o, oc, od, upd_same⟩, z, r.mono (Ext.new f)⟩
theorem Rel.lst_new {p : Addr} {l : List PV} {vs : List V} (s : SR (kf X) B ρ h H) (f : H p = none) (z : vs.length ≤ SZ) (r : Rels (kf X) B ρ H l vs) : Rel (kf X) B ρ (upd H p (.lst vs)) (.lst l) (.ref p) := by
  simp only [Rel]
  exact ⟨p, vs, rfl, ⟨upd_same, s.free f, s.notB f⟩, z, r.mono (Ext.new f)⟩
/-- a list: frozen or ours -/
theorem lst_at {x : PV} {l : List PV} {v : V} (s : SR (kf X) B ρ h H) (r : Rel (kf X) B ρ H x v) (e : lstOf h x = some l) : ∃ a vs, v = .ref a ∧ H a = some (.lst vs) ∧ vs.length ≤ SZ ∧ Rels (kf X) B ρ H l vs := by
  cases x <;> simp only [lstOf] at e <;> try contradiction
  · cases e
    obtain ⟨a, vs, q, f, z, rs⟩ := r.lst_inv
    exact ⟨a, vs, q, f.1, z, rs⟩
  · rename_i n
    obtain ⟨a, ra, rfl⟩ := r.ref_inv
    split at e <;> try contradiction
    cases e
    rename_i xs hx
    obtain ⟨a', ra', vs, q, z, rs⟩ := s.at hx
    rw [ra] at ra'; cases ra'
    exact ⟨a, vs, rfl, q, z, rs⟩
/-- any sequence -/
theorem seq_at {x : PV} {l : List PV} {v : V} (s : SR (kf X) B ρ h H) (r : Rel (kf X) B ρ H x v) (e : seqOf h x = some l) : ∃ a vs, v = .ref a ∧ (SqL X.K H a vs ∨ SqT X.K H a vs) ∧ vs.length ≤ SZ ∧ Rels (kf X) B ρ H l vs := by
  cases x <;> simp only [seqOf] at e <;> try contradiction
  · cases e
    obtain ⟨a, vs, q, f, z, rs⟩ := r.tup_inv
    exact ⟨a, vs, q, .inr (tup_sq f), z, rs⟩
  · cases e
    obtain ⟨a, vs, q, f, z, rs⟩ := r.lst_inv
    exact ⟨a, vs, q, .inl (SqL.of f.1), z, rs⟩
  · rename_i n
    obtain ⟨a, ra, rfl⟩ := r.ref_inv
    split at e <;> try contradiction
    · cases e
      rename_i xs hx
      obtain ⟨a', ra', vs, q, z, rs⟩ := s.at hx
      rw [ra] at ra'; cases ra'
      exact ⟨a, vs, rfl, .inl (SqL.of q), z, rs⟩
  · cases e
    obtain ⟨a, vs, q, f, z, rs⟩ := r.scr_inv
    exact ⟨a, vs, q, .inl (scr_sq f), z, rs⟩
theorem dct_at {x : PV} {ks ws : List PV} {v : V} (s : SR (kf X) B ρ h H) (r : Rel (kf X) B ρ H x v) (e : dctOf h x = some (ks, ws)) : ∃ a kvs, v = .ref a ∧ H a = some (.dK kvs) ∧ kvs.length ≤ SZ ∧ ks = kvs.map (fun p => keyP p.1) ∧ Rels (kf X) B ρ H ws (kvs.map (·.2)) := by
  cases x <;> simp only [dctOf] at e <;> try contradiction
  · cases e
    obtain ⟨a, kvs, q, f, z, k, rs⟩ := r.dct_inv
    exact ⟨a, kvs, q, f.1, z, k, rs⟩
  · rename_i n
    obtain ⟨a, ra, rfl⟩ := r.ref_inv
    split at e <;> try contradiction
    cases e
    rename_i hx
    obtain ⟨a', ra', kvs, q, z, k, rs⟩ := s.at hx
    rw [ra] at ra'; cases ra'
    exact ⟨a, kvs, rfl, q, z, k, rs⟩

/-- the object of a frozen thing that is taken over -/
def obOf : PV → Ob
  | .lst l => .lst l
  | .dct ks vs => .dct ks vs
  | _ => .lst []
theorem SR.own {a : Addr} {u : HO} {o : Ob} (s : SR (kf X) B ρ h H) (f : H a = none) (q : ObR (kf X) B (ρ ++ [a]) (upd H a u) a o) : SR (kf X) B (ρ ++ [a]) (h ++ [o]) (upd H a u) := by
  have na := s.free f
  refine ⟨by simp [s.len], ?_, fun b hb => ?_, fun i o' c e r => ?_⟩
  · rw [List.nodup_append]
    refine ⟨s.nd, by simp, fun x hx y hy => ?_⟩
    simp at hy
    subst hy
    rintro rfl
    exact na hx
  · obtain ⟨n, o', q'⟩ := s.bnd b hb
    have nb := ne_of_none q' f
    exact ⟨by simp [n, nb], o', by rw [upd_ne nb]; exact q'⟩
  · by_cases hi : i < h.length
    · rw [List.getElem?_append_left hi] at e
      rw [List.getElem?_append_left (by rw [s.len]; exact hi)] at r
      exact (s.ob i o' c e r).mono (Ext.own f) (upd_ne (by rintro rfl; exact na (List.mem_of_getElem? r)))
    · have hl : i = h.length := by
        have := (List.getElem?_eq_some_iff.mp e).1
        simp at this
        omega
      subst hl
      rw [List.getElem?_append_right (Nat.le_refl _), Nat.sub_self] at e
      rw [List.getElem?_append_right (by rw [s.len]; exact Nat.le_refl _), s.len, Nat.sub_self] at r
      simp at e r
      subst e r
      exact q
/-- it may be taken over -/
def Fresh (K : KF) (B : Addr → Prop) (ρ : List Addr) (h : Hh) (H : Hp) (p : PV) (a : Addr) : Prop := SR K B (ρ ++ [a]) (h ++ [obOf p]) H
theorem fresh_lst {l : List PV} {vs : List V} {p : Addr} (s : SR (kf X) B ρ h H) (f : H p = none) (z : vs.length ≤ SZ) (r : Rels (kf X) B ρ H l vs) : Fresh (kf X) B ρ h (upd H p (.lst vs)) (.lst l) p :=
  s.own f ⟨vs, upd_same, z, r.mono (Ext.own f)⟩
/-- what an operation's result is asked -/
def Out (X : Cx) (B : Addr → Prop) (ρ : List Addr) (h : Hh) (H : Hp) (z : PV) (Q : VK) : Prop := ∀ ρ' H' u, Ext ρ H ρ' H' → SR (kf X) B ρ' h H' → Rel (kf X) B ρ' H' z u → (isL z = true → ∀ a, u = .ref a → H a = none ∧ Fresh (kf X) B ρ' h H' z a) → Q u H'
theorem Out.here {z : PV} {Q : VK} (o : Out X B ρ h H z Q) (s : SR (kf X) B ρ h H) {u : V} (r : Rel (kf X) B ρ H z u) (n : isL z = false) : Q u H := o ρ H u (Ext.refl _ _) s r (by rw [n]; intro q; cases q)
theorem Out.tup {l : List PV} {vs : List V} {Q : VK} (o : Out X B ρ h H (.tup l) Q) (s : SR (kf X) B ρ h H) (z : vs.length ≤ SZ) (r : Rels (kf X) B ρ H l vs) : NewT H vs Q :=
  fun p u uc ud f => o ρ _ _ (Ext.new f) (s.new f) (Rel.tup_new uc ud s f z r) (fun q => by cases q)
theorem Out.lst {l : List PV} {vs : List V} {Q : VK} (o : Out X B ρ h H (.lst l) Q) (s : SR (kf X) B ρ h H) (z : vs.length ≤ SZ) (r : Rels (kf X) B ρ H l vs) : ∀ p, H p = none → Q (.ref p) (upd H p (.lst vs)) :=
  fun p f => o ρ _ _ (Ext.new f) (s.new f) (Rel.lst_new s f z r) (fun _ a e => by cases e; exact ⟨f, fresh_lst s f z r⟩)

theorem i64_mul {i j : Int} (e : (i64 i || i64 j) = true) : CMul i j := by
  rcases Bool.or_eq_true_iff.mp e with q | q
  · exact .inl (of_decide_eq_true q)
  · exact .inr (of_decide_eq_true q)

theorem len_rep {α} (xs : List α) : ∀ n : Nat, (List.replicate n xs).flatten.length = n * xs.length
  | 0 => by simp
  | n + 1 => by rw [List.replicate_succ, List.flatten_cons, List.length_append, len_rep xs n, Nat.add_mul]; omega

/-- a text so many times -/
theorem op_mul_str : OpR X (binaryOp .Mult) (fun x y H Q => ∃ i k, x = .str i ∧ y = .int k ∧ i.length ≤ 16 ∧ -(2 ^ 63) ≤ k ∧ k ≤ 1048576 ∧ Q (.str (Txt.mul i k)) H) := by
  intro pins s σ H x y v u Q I rx ry h
  obtain ⟨i, k, rfl, rfl, h1, h2, h3, q⟩ := h
  obtain ⟨t, rfl⟩ := rx
  obtain ⟨t', rfl⟩ := ry
  exact PySem.W.KXi.mul (n := i.length) rfl h1 h2 h3 fun t' tk _ _ => ⟨.str (Txt.mul i k), H, I.tok _, ⟨_, rfl⟩, q⟩
theorem op_ok (o : Op2) : ∃ r : R2, OpR X (binaryOp (opA o)) r ∧ ∀ {B : Addr → Prop} {ρ : List Addr} {h : Hh} {H : Hp} {p q z : PV} {v w : V} {Q : VK}, SR (kf X) B ρ h H → Rel (kf X) B ρ H p v → Rel (kf X) B ρ H q w → op2 h o p q = some z →
    Out X B ρ h H z Q → r v w H Q := by
  have other : ∀ {h : Hh} {p q z : PV} (o : Op2), (∀ i j, p = .int i → q = .int j → False) → o ≠ .add → o ≠ .mul → op2 h o p q = some z → False := by
    intro h p q z o hn ha hm e
    unfold op2 at e
    split at e
    · exact hn _ _ rfl rfl
    · cases o <;> simp at e <;> contradiction
    · cases o <;> simp at e <;> contradiction
    · cases o <;> simp at e <;> contradiction
    · cases o <;> simp at e <;> contradiction
    · split at e <;> simp at e <;> contradiction
    · split at e <;> simp at e <;> contradiction
  have num : ∀ {h : Hh} {p q z : PV} (o : Op2), o ≠ .add → o ≠ .mul → op2 h o p q = some z → ∃ i j, p = .int i ∧ q = .int j := by
    intro h p q z o ha hm e
    cases p with
    | int i =>
      cases q with
      | int j => exact ⟨i, j, rfl, rfl⟩
      | _ => exact (other o (by intro i j a b; cases b) ha hm e).elim
    | _ => exact (other o (by intro i j a b; cases a) ha hm e).elim
  cases o with
  | add =>
    refine ⟨_, ((op_add (X := X)).or (op_add_str (X := X))).or ((op_catN (X := X)).or (op_cat (X := X))), fun {B ρ h H p q z v w Q} s rp rq e ot => ?_⟩
    unfold op2 at e
    split at e
    · cases e
      rw [rp.int_inv, rq.int_inv]
      exact .inl (.inl ⟨_, _, rfl, rfl, ot.here s Rel.int_mk rfl⟩)
    · simp only at e
      split at e <;> try contradiction
      cases e
      rw [rp.str_inv, rq.str_inv]
      exact .inl (.inr ⟨_, _, rfl, rfl, by rw [SZ_eq]; assumption, ot.here s Rel.str_mk rfl⟩)
    · simp only at e
      split at e <;> try contradiction
      rename_i hz
      cases e
      obtain ⟨a, vs, rfl, f, zv, rs⟩ := rp.tup_inv
      obtain ⟨b, ws, rfl, g, zw, rt⟩ := rq.tup_inv
      have hzz : vs.length + ws.length ≤ SZ := by rw [← rs.length, ← rt.length]; exact hz
      refine .inr (.inl ⟨a, b, vs, ws, rfl, rfl, tup_sq f, tup_sq g, by rw [SZ_eq]; exact hzz, fun e1 => ?_, fun hne e2 => ?_, fun _ _ => ot.tup s (by rw [List.length_append]; exact hzz) (rs.append rt)⟩)
      · subst e1
        refine ot.here s ?_ rfl
        rename_i xs ys
        have : xs = [] := List.eq_nil_of_length_eq_zero (by rw [rs.length]; rfl)
        subst this
        exact rq
      · subst e2
        refine ot.here s ?_ rfl
        rename_i xs ys
        have : ys = [] := List.eq_nil_of_length_eq_zero (by rw [rt.length]; rfl)
        subst this
        rw [List.append_nil]
        exact rp
    · simp only at e
      contradiction
    · simp only at e
      contradiction
    · split at e <;> simp at e <;> contradiction
    · split at e <;> try contradiction
      rename_i a b ha hb
      split at e <;> try contradiction
      rename_i hz
      cases e
      obtain ⟨l, vs, rfl, f, zv, rs⟩ := lst_at s rp ha
      obtain ⟨m, ws, rfl, g, zw, rt⟩ := lst_at s rq hb
      have hzz : vs.length + ws.length ≤ SZ := by rw [← rs.length, ← rt.length]; exact hz
      exact .inr (.inr ⟨l, m, vs, ws, rfl, rfl, f, g, by rw [SZ_eq]; exact hzz, ot.lst s (by rw [List.length_append]; exact hzz) (rs.append rt)⟩)
  | mul =>
    refine ⟨_, (op_mul (X := X)).or ((op_mul_str (X := X)).or ((op_rep (X := X)).or ((op_repN (X := X)).or (op_repE (X := X))))), fun {B ρ h H p q z v w Q} s rp rq e ot => ?_⟩
    unfold op2 at e
    split at e
    · simp only at e
      split at e <;> try contradiction
      cases e
      rw [rp.int_inv, rq.int_inv]
      exact .inl ⟨_, _, rfl, rfl, i64_mul (by assumption), ot.here s Rel.int_mk rfl⟩
    · simp only at e
      contradiction
    · simp only at e
      contradiction
    · simp only at e
      split at e
      rotate_left
      · split at e <;> try contradiction
        rename_i hz
        cases e
        obtain ⟨rfl, z1, z2⟩ := hz
        rw [rq.int_inv]
        have rp' := rp
        obtain ⟨a, vs, rfl, f, zv, rs⟩ := rp.tup_inv
        obtain rfl := rs.nil_inv
        exact .inr (.inr (.inr (.inr ⟨a, _, rfl, rfl, tup_sq f, z1, z2, ot.here s rp' rfl⟩)))
      rename_i hz
      cases e
      obtain ⟨a, vs, rfl, f, zv, rs⟩ := rp.tup_inv
      rw [rq.int_inv]
      obtain ⟨z0, z1, z2, z3⟩ := hz
      have hl := rs.length
      refine .inr (.inr (.inr (.inl ⟨a, _, vs, rfl, rfl, tup_sq f, ?_, z1, z2, by omega, ot.tup s ?_ (rs.flat_rep _)⟩)))
      · rintro rfl
        exact z0 (List.eq_nil_of_length_eq_zero hl)
      · rename_i _ m
        rw [len_rep]
        have h2 := Nat.mul_le_mul (show m.toNat ≤ 1000 by omega) (show vs.length ≤ 1000 by omega)
        exact Nat.le_trans h2 (show 1000 * 1000 ≤ SZ by unfold SZ; omega)
    · simp only at e
      split at e <;> try contradiction
      rename_i hz
      cases e
      rw [rp.str_inv, rq.int_inv]
      exact .inr (.inl ⟨_, _, rfl, rfl, hz.1, hz.2.1, hz.2.2, ot.here s Rel.str_mk rfl⟩)
    · split at e <;> try contradiction
      rename_i xs hx
      split at e <;> try contradiction
      rename_i hz
      cases e
      obtain ⟨l, vs, rfl, f, zv, rs⟩ := lst_at s rp hx
      rw [rq.int_inv]
      have hz3 := hz.2.2
      rw [rs.length] at hz3
      refine .inr (.inr (.inl ⟨l, _, vs, rfl, rfl, f, hz.1, hz.2.1, by rw [SZ_eq]; exact hz3, ot.lst s ?_ (rs.flat_rep _)⟩))
      rw [len_rep, Nat.mul_comm]
      exact hz3
    · split at e <;> contradiction
  | sub =>
    refine ⟨_, op_sub (X := X), fun {B ρ h H p q z v w Q} s rp rq e ot => ?_⟩
    obtain ⟨i, j, rfl, rfl⟩ := num .sub (by decide) (by decide) e
    rw [rp.int_inv, rq.int_inv]
    simp only [op2] at e
    cases e
    exact ⟨_, _, rfl, rfl, ot.here s Rel.int_mk rfl⟩
  | fdiv =>
    refine ⟨_, op_fdiv (X := X), fun {B ρ h H p q z v w Q} s rp rq e ot => ?_⟩
    obtain ⟨i, j, rfl, rfl⟩ := num .fdiv (by decide) (by decide) e
    rw [rp.int_inv, rq.int_inv]
    simp only [op2] at e
    split at e <;> try contradiction
    cases e
    exact ⟨_, _, rfl, rfl, by assumption, ot.here s Rel.int_mk rfl⟩
  | mod =>
    refine ⟨_, op_mod (X := X), fun {B ρ h H p q z v w Q} s rp rq e ot => ?_⟩
    obtain ⟨i, j, rfl, rfl⟩ := num .mod (by decide) (by decide) e
    rw [rp.int_inv, rq.int_inv]
    simp only [op2] at e
    split at e <;> try contradiction
    cases e
    exact ⟨_, _, rfl, rfl, by assumption, ot.here s Rel.int_mk rfl⟩
  | pow =>
    refine ⟨_, op_pow (X := X), fun {B ρ h H p q z v w Q} s rp rq e ot => ?_⟩
    obtain ⟨i, j, rfl, rfl⟩ := num .pow (by decide) (by decide) e
    rw [rp.int_inv, rq.int_inv]
    simp only [op2] at e
    split at e <;> try contradiction
    cases e
    exact ⟨_, _, rfl, rfl, by assumption, ot.here s Rel.int_mk rfl⟩
  | shl =>
    refine ⟨_, op_shl (X := X), fun {B ρ h H p q z v w Q} s rp rq e ot => ?_⟩
    obtain ⟨i, j, rfl, rfl⟩ := num .shl (by decide) (by decide) e
    rw [rp.int_inv, rq.int_inv]
    simp only [op2] at e
    split at e <;> try contradiction
    cases e
    exact ⟨_, _, rfl, rfl, by assumption, ot.here s Rel.int_mk rfl⟩
  | shr =>
    refine ⟨_, op_shr (X := X), fun {B ρ h H p q z v w Q} s rp rq e ot => ?_⟩
    obtain ⟨i, j, rfl, rfl⟩ := num .shr (by decide) (by decide) e
    rw [rp.int_inv, rq.int_inv]
    simp only [op2] at e
    split at e <;> try contradiction
    cases e
    exact ⟨_, _, rfl, rfl, by assumption, ot.here s Rel.int_mk rfl⟩
  | and =>
    refine ⟨_, op_and (X := X), fun {B ρ h H p q z v w Q} s rp rq e ot => ?_⟩
    obtain ⟨i, j, rfl, rfl⟩ := num .and (by decide) (by decide) e
    rw [rp.int_inv, rq.int_inv]
    simp only [op2] at e
    cases e
    exact ⟨_, _, rfl, rfl, ot.here s Rel.int_mk rfl⟩
  | or =>
    refine ⟨_, op_or (X := X), fun {B ρ h H p q z v w Q} s rp rq e ot => ?_⟩
    obtain ⟨i, j, rfl, rfl⟩ := num .or (by decide) (by decide) e
    rw [rp.int_inv, rq.int_inv]
    simp only [op2] at e
    cases e
    exact ⟨_, _, rfl, rfl, ot.here s Rel.int_mk rfl⟩
  | xor =>
    refine ⟨_, op_xor (X := X), fun {B ρ h H p q z v w Q} s rp rq e ot => ?_⟩
    obtain ⟨i, j, rfl, rfl⟩ := num .xor (by decide) (by decide) e
    rw [rp.int_inv, rq.int_inv]
    simp only [op2] at e
    cases e
    exact ⟨_, _, rfl, rfl, ot.here s Rel.int_mk rfl⟩

/-- truth -/
theorem tru_at {x : PV} {v : V} {b : Bool} (s : SR (kf X) B ρ h H) (r : Rel (kf X) B ρ H x v) (e : truthy h x = some b) : TruV X.K v H b := by
  cases x with
  | non => rw [r.non_inv]; simp only [truthy] at e; cases e; rfl
  | bl b => rw [r.bl_inv]; simp only [truthy] at e; cases e; rfl
  | int i => rw [r.int_inv]; simp only [truthy] at e; cases e; rfl
  | str y =>
    rw [r.str_inv]
    simp only [truthy] at e
    split at e <;> try contradiction
    cases e
    exact ⟨by rw [sizeLine_eq]; assumption, rfl⟩
  | tup l =>
    obtain ⟨a, vs, rfl, f, zv, rs⟩ := r.tup_inv
    simp only [truthy] at e
    cases e
    refine .inr (.inl ⟨vs, tup_sq f, ?_⟩)
    have := rs.length
    cases l <;> cases vs <;> simp_all
  | lst l =>
    obtain ⟨a, vs, rfl, f, zv, rs⟩ := r.lst_inv
    simp only [truthy] at e
    cases e
    refine .inl ⟨vs, SqL.of f.1, ?_⟩
    have := rs.length
    cases l <;> cases vs <;> simp_all
  | scr l =>
    obtain ⟨a, vs, rfl, f, zv, rs⟩ := r.scr_inv
    simp only [truthy] at e
    cases e
    refine .inl ⟨vs, scr_sq f, ?_⟩
    have := rs.length
    cases l <;> cases vs <;> simp_all
  | dct ks ws =>
    obtain ⟨a, kvs, rfl, f, zv, k, rs⟩ := r.dct_inv
    simp only [truthy] at e
    cases e
    refine .inr (.inr ⟨kvs, f.1, ?_⟩)
    subst k
    cases kvs <;> rfl
  | ref i =>
    obtain ⟨a, ra, rfl⟩ := r.ref_inv
    simp only [truthy] at e
    split at e <;> try contradiction
    · cases e
      rename_i l hx
      obtain ⟨a', ra', vs, q, z, rs⟩ := s.at hx
      rw [ra] at ra'; cases ra'
      refine .inl ⟨vs, SqL.of q, ?_⟩
      have := rs.length
      cases l <;> cases vs <;> simp_all
    · cases e
      rename_i ks _ hx
      obtain ⟨a', ra', kvs, q, z, k, rs⟩ := s.at hx
      rw [ra] at ra'; cases ra'
      refine .inr (.inr ⟨kvs, q, ?_⟩)
      subst k
      cases kvs <;> rfl
end
end Y

/-! K3b: comparisons, subscripts, slices, built-ins by values -/
namespace Y
open PySem PySem.Spec PyProof.Rows L2

mutual
def toD : PV → PyData
  | .non => .none
  | .bl b => .bool b
  | .int i => .int i
  | .str x => .str x
  | .tup l => .tuple (toDs l)
  | .lst l => .list (toDs l)
  | .dct _ _ => .none
  | .scr _ => .none
  | .ref _ => .none
def toDs : List PV → List PyData
  | [] => []
  | x :: xs => toD x :: toDs xs
end
theorem toDs_map : ∀ l, toDs l = l.map toD
  | [] => rfl
  | x :: xs => by simp [toDs, toDs_map xs]
theorem shp_tup {n : Nat} {l : List PV} (h : shp n (.tup l) = true) : ∃ m, n = m + 1 ∧ l.all (shp m) = true := by
  cases n with
  | zero => simp [shp] at h
  | succ m => exact ⟨m, rfl, by simpa [shp] using h⟩
theorem shp_lst {n : Nat} {l : List PV} (h : shp n (.lst l) = true) : ∃ m, n = m + 1 ∧ l.all (shp m) = true := by
  cases n with
  | zero => simp [shp] at h
  | succ m => exact ⟨m, rfl, by simpa [shp] using h⟩
theorem shp_str {n : Nat} {x : Str} (h : shp n (.str x) = true) : PyData.strOk x = true := by
  cases n <;> simpa [shp] using h
mutual
theorem lay_of : ∀ (n : Nat) (p : PV), shp n p = true → (toD p).canLay0 = true ∧ (toD p).depth ≤ n
  | n, .non, _ => by simp [toD, PyData.canLay0, PyData.depth]
  | n, .bl b, _ => by simp [toD, PyData.canLay0, PyData.depth]
  | n, .int i, _ => by simp [toD, PyData.canLay0, PyData.depth]
  | n, .str x, h => by simp [toD, PyData.canLay0, PyData.depth, shp_str h]
  | n, .tup l, h => by
    obtain ⟨m, rfl, h⟩ := shp_tup h
    obtain ⟨a, b⟩ := lay_all m l h
    simp [toD, PyData.canLay0, PyData.depth, a, b]
  | n, .lst l, h => by
    obtain ⟨m, rfl, h⟩ := shp_lst h
    obtain ⟨a, b⟩ := lay_all m l h
    simp [toD, PyData.canLay0, PyData.depth, a, b]
  | n, .dct _ _, h => by cases n <;> simp [shp] at h
  | n, .scr _, h => by cases n <;> simp [shp] at h
  | n, .ref _, h => by cases n <;> simp [shp] at h
theorem lay_all : ∀ (n : Nat) (l : List PV), l.all (shp n) = true → PyData.canLayAll0 (toDs l) = true ∧ PyData.depthAll (toDs l) ≤ n
  | n, [], _ => by simp [toDs, PyData.canLayAll0, PyData.depthAll]
  | n, x :: xs, h => by
    simp only [List.all_cons, Bool.and_eq_true] at h
    obtain ⟨a, b⟩ := lay_of n x h.1
    obtain ⟨c, d⟩ := lay_all n xs h.2
    simp only [toDs, PyData.canLayAll0, PyData.depthAll, a, c, Bool.and_self, true_and]
    omega
end
theorem shaped_of {n : Nat} {p : PV} (hn : n ≤ 64) (h : shp n p = true) : SeqAt.shaped (toD p) = true := by
  obtain ⟨a, b⟩ := lay_of n p h
  unfold SeqAt.shaped
  rw [a, Bool.true_and]
  exact decide_eq_true (Nat.le_trans b hn)
mutual
theorem eqv_toD : ∀ (n m : Nat) (p q : PV), shp n p = true → shp m q = true → PyData.eqv (toD p) (toD q) = eqv p q
  | n, m, .non, q, _, hq => by cases q <;> first | rfl | (cases m <;> simp [shp] at hq)
  | n, m, .bl b, q, _, hq => by cases q <;> first | rfl | (cases m <;> simp [shp] at hq)
  | n, m, .int i, q, _, hq => by cases q <;> first | rfl | (cases m <;> simp [shp] at hq)
  | n, m, .str x, q, _, hq => by cases q <;> first | rfl | (cases m <;> simp [shp] at hq)
  | n, m, .tup l, q, hp, hq => by
    obtain ⟨n', rfl, hp⟩ := shp_tup hp
    cases q with
    | tup l' =>
      obtain ⟨m', rfl, hq⟩ := shp_tup hq
      simp only [toD, PyData.eqv, eqv]
      exact eqvs_toD n' m' l l' hp hq
    | dct a b => cases m <;> simp [shp] at hq
    | ref a => cases m <;> simp [shp] at hq
    | scr a => cases m <;> simp [shp] at hq
    | _ => rfl
  | n, m, .lst l, q, hp, hq => by
    obtain ⟨n', rfl, hp⟩ := shp_lst hp
    cases q with
    | lst l' =>
      obtain ⟨m', rfl, hq⟩ := shp_lst hq
      simp only [toD, PyData.eqv, eqv]
      exact eqvs_toD n' m' l l' hp hq
    | dct a b => cases m <;> simp [shp] at hq
    | ref a => cases m <;> simp [shp] at hq
    | scr a => cases m <;> simp [shp] at hq
    | _ => rfl
  | n, m, .dct _ _, q, hp, _ => by cases n <;> simp [shp] at hp
  | n, m, .scr _, q, hp, _ => by cases n <;> simp [shp] at hp
  | n, m, .ref _, q, hp, _ => by cases n <;> simp [shp] at hp
theorem eqvs_toD : ∀ (n m : Nat) (p q : List PV), p.all (shp n) = true → q.all (shp m) = true → PyData.eqvAll (toDs p) (toDs q) = eqvs p q
  | n, m, [], [], _, _ => rfl
  | n, m, [], y :: ys, _, _ => rfl
  | n, m, x :: xs, [], _, _ => rfl
  | n, m, x :: xs, y :: ys, hp, hq => by
    simp only [List.all_cons, Bool.and_eq_true] at hp hq
    simp only [toDs, PyData.eqvAll, eqvs]
    rw [eqv_toD n m x y hp.1 hq.1, eqvs_toD n m xs ys hp.2 hq.2]
end

section
variable {X : Cx} {B : Addr → Prop} {ρ : List Addr} {h : Hh} {H : Hp}
theorem KTup.sq {a : Addr} {vs : List V} (f : KTup (kf X) a vs) : SqT X.K H a vs := tup_sq (.inr f)
mutual
theorem dp_of : ∀ (n : Nat) (p : PV) (v : V), shp n p = true → Rel (kf X) B ρ H p v → Dp X.K H v (toD p)
  | n, .non, v, _, r => by rw [r.non_inv]; exact .non
  | n, .bl b, v, _, r => by rw [r.bl_inv]; exact .bl b
  | n, .int i, v, _, r => by rw [r.int_inv]; exact .int i
  | n, .str x, v, _, r => by rw [r.str_inv]; exact .str x
  | n, .tup l, v, h, r => by
    obtain ⟨m, rfl, h⟩ := shp_tup h
    obtain ⟨a, vs, rfl, f, z, rs⟩ := r.tup_inv
    exact .tup (tup_sq f) (dps_of m l vs h rs)
  | n, .lst l, v, h, r => by
    obtain ⟨m, rfl, h⟩ := shp_lst h
    obtain ⟨a, vs, rfl, f, z, rs⟩ := r.lst_inv
    exact .lst (SqL.of f.1) (dps_of m l vs h rs)
  | n, .dct _ _, v, h, _ => by cases n <;> simp [shp] at h
  | n, .scr _, v, h, _ => by cases n <;> simp [shp] at h
  | n, .ref _, v, h, _ => by cases n <;> simp [shp] at h
theorem dps_of : ∀ (n : Nat) (p : List PV) (v : List V), p.all (shp n) = true → Rels (kf X) B ρ H p v → DpAll X.K H v (toDs p)
  | n, [], v, _, r => by rw [r.nil_inv]; exact .nil
  | n, x :: xs, v, h, r => by
    simp only [List.all_cons, Bool.and_eq_true] at h
    obtain ⟨w, ws, rfl, a, b⟩ := r.cons_inv
    exact .cons (dp_of n x w h.1 a) (dps_of n xs ws h.2 b)
end
/-! a snapshot -/
section
variable {B2 : Addr → Prop} {ρ2 : List Addr}
mutual
theorem imm_rel (hB : ∀ a, ¬ B a → a ∉ ρ → ¬ B2 a ∧ a ∉ ρ2) : ∀ (p : PV) (v : V), imm p = true → Rel (kf X) B ρ H p v → Rel (kf X) B2 ρ2 H p v
  | .non, v, _, r => by rw [r.non_inv]; exact Rel.non_mk
  | .bl b, v, _, r => by rw [r.bl_inv]; exact Rel.bl_mk
  | .int i, v, _, r => by rw [r.int_inv]; exact Rel.int_mk
  | .str x, v, _, r => by rw [r.str_inv]; exact Rel.str_mk
  | .tup l, v, h, r => by
    obtain ⟨a, vs, rfl, f, z, rs⟩ := r.tup_inv
    simp only [Rel]
    exact ⟨a, vs, rfl, f, z, imms_rel hB l vs (by simpa [imm] using h) rs⟩
  | .lst l, v, h, r => by
    obtain ⟨a, vs, rfl, f, z, rs⟩ := r.lst_inv
    simp only [Rel]
    exact ⟨a, vs, rfl, ⟨f.1, (hB a f.2.2 f.2.1).2, (hB a f.2.2 f.2.1).1⟩, z, imms_rel hB l vs (by simpa [imm] using h) rs⟩
  | .dct ks ws, v, h, r => by
    obtain ⟨a, kvs, rfl, f, z, k, rs⟩ := r.dct_inv
    simp only [Rel]
    have h' : imms ks = true ∧ imms ws = true := by simpa [imm] using h
    exact ⟨a, kvs, rfl, ⟨f.1, (hB a f.2.2 f.2.1).2, (hB a f.2.2 f.2.1).1⟩, z, k, imms_rel hB ws _ h'.2 rs⟩
  | .scr l, v, h, r => by
    obtain ⟨a, vs, rfl, f, z, rs⟩ := r.scr_inv
    simp only [Rel]
    exact ⟨a, vs, rfl, f.imp (fun ⟨o, f⟩ => ⟨o, f.1, (hB a f.2.2 f.2.1).2, (hB a f.2.2 f.2.1).1⟩) id, z, imms_rel hB l vs (by simpa [imm] using h) rs⟩
  | .ref i, v, h, r => by simp [imm] at h
theorem imms_rel (hB : ∀ a, ¬ B a → a ∉ ρ → ¬ B2 a ∧ a ∉ ρ2) : ∀ (p : List PV) (v : List V), imms p = true → Rels (kf X) B ρ H p v → Rels (kf X) B2 ρ2 H p v
  | [], v, _, r => by rw [r.nil_inv]; exact Rels.nil
  | x :: xs, v, h, r => by
    have h' : imm x = true ∧ imms xs = true := by simpa [imms] using h
    obtain ⟨w, ws, rfl, a, b⟩ := r.cons_inv
    exact Rels.cons (imm_rel hB x w h'.1 a) (imms_rel hB xs ws h'.2 b)
end
mutual
theorem dat_rel : ∀ (p : PV) (v : V), dat p = true → Rel (kf X) B ρ H p v → Rel (kf X) B2 ρ2 H p v
  | .non, v, _, r => by rw [r.non_inv]; exact Rel.non_mk
  | .bl b, v, _, r => by rw [r.bl_inv]; exact Rel.bl_mk
  | .int i, v, _, r => by rw [r.int_inv]; exact Rel.int_mk
  | .str x, v, _, r => by rw [r.str_inv]; exact Rel.str_mk
  | .tup l, v, h, r => by
    obtain ⟨a, vs, rfl, f, z, rs⟩ := r.tup_inv
    simp only [Rel]
    exact ⟨a, vs, rfl, f, z, dats_rel l vs (by simpa [dat] using h) rs⟩
  | .lst l, v, h, r => by simp [dat] at h
  | .dct ks ws, v, h, r => by simp [dat] at h
  | .scr l, v, h, r => by simp [dat] at h
  | .ref i, v, h, r => by simp [dat] at h
theorem dats_rel : ∀ (p : List PV) (v : List V), dats p = true → Rels (kf X) B ρ H p v → Rels (kf X) B2 ρ2 H p v
  | [], v, _, r => by rw [r.nil_inv]; exact Rels.nil
  | x :: xs, v, h, r => by
    have h' : dat x = true ∧ dats xs = true := by simpa [dats] using h
    obtain ⟨w, ws, rfl, a, b⟩ := r.cons_inv
    exact Rels.cons (dat_rel x w h'.1 a) (dats_rel xs ws h'.2 b)
end
theorem mapM_rel {f : PV → Option PV} (hf : ∀ (p q : PV) (v : V), f p = some q → Rel (kf X) B ρ H p v → Rel (kf X) B2 ρ2 H q v) : ∀ (l l' : List PV) (vs : List V), l.mapM f = some l' → Rels (kf X) B ρ H l vs → Rels (kf X) B2 ρ2 H l' vs
  | [], l', vs, e, r => by simp at e; subst e; rw [r.nil_inv]; exact Rels.nil
  | x :: xs, l', vs, e, r => by
    obtain ⟨w, ws, rfl, a, b⟩ := r.cons_inv
    rw [List.mapM_cons] at e
    cases hx : f x with
    | none => rw [hx] at e; simp at e
    | some y =>
      cases hxs : xs.mapM f with
      | none => rw [hx, hxs] at e; simp at e
      | some ys =>
        rw [hx, hxs] at e
        simp at e
        subst e
        exact Rels.cons (hf x y w hx a) (mapM_rel hf xs ys ws hxs b)
theorem frz_rel (s : SR (kf X) B ρ h H) (hB : ∀ a, ¬ B a → a ∉ ρ → ¬ B2 a ∧ a ∉ ρ2) (hρ : ∀ a, a ∈ ρ → ¬ B2 a ∧ a ∉ ρ2) : ∀ (n : Nat) (p q : PV) (v : V), frz h n p = some q → Rel (kf X) B ρ H p v → Rel (kf X) B2 ρ2 H q v
  | 0, p, q, v, e, r => by
    unfold frz at e
    split at e <;> try contradiction
    cases e
    exact imm_rel hB p v (by assumption) r
  | n + 1, p, q, v, e, r => by
    unfold frz at e
    split at e
    · cases e
      exact imm_rel hB p v (by assumption) r
    · cases p <;> simp only at e <;> try contradiction
      · rename_i l _
        obtain ⟨a, vs, rfl, f, z, rs⟩ := r.tup_inv
        cases hl : l.mapM (frz h n) with
        | none => rw [hl] at e; simp at e
        | some l' =>
          rw [hl] at e
          simp at e
          subst e
          simp only [Rel]
          exact ⟨a, vs, rfl, f, z, mapM_rel (fun p q v => frz_rel s hB hρ n p q v) l l' vs hl rs⟩
      · rename_i l _
        obtain ⟨a, vs, rfl, f, z, rs⟩ := r.lst_inv
        cases hl : l.mapM (frz h n) with
        | none => rw [hl] at e; simp at e
        | some l' =>
          rw [hl] at e
          simp at e
          subst e
          simp only [Rel]
          exact ⟨a, vs, rfl, ⟨f.1, (hB a f.2.2 f.2.1).2, (hB a f.2.2 f.2.1).1⟩, z, mapM_rel (fun p q v => frz_rel s hB hρ n p q v) l l' vs hl rs⟩
      · rename_i i
        obtain ⟨a, ra, rfl⟩ := r.ref_inv
        have m : a ∈ ρ := List.mem_of_getElem? ra
        split at e <;> try contradiction
        · rename_i l hx
          obtain ⟨a', ra', vs, f, z, rs⟩ := s.at hx
          rw [ra] at ra'; cases ra'
          cases hl : l.mapM (frz h n) with
          | none => rw [hl] at e; simp at e
          | some l' =>
            rw [hl] at e
            simp at e
            subst e
            simp only [Rel]
            exact ⟨a, vs, rfl, ⟨f, (hρ a m).2, (hρ a m).1⟩, z, mapM_rel (fun p q v => frz_rel s hB hρ n p q v) l l' vs hl rs⟩
        · rename_i ks ws hx
          obtain ⟨a', ra', kvs, f, z, k, rs⟩ := s.at hx
          rw [ra] at ra'; cases ra'
          split at e <;> try contradiction
          rename_i hi
          cases e
          simp only [Rel]
          rw [Bool.and_eq_true] at hi
          exact ⟨a, kvs, rfl, ⟨f, (hρ a m).2, (hρ a m).1⟩, z, k, imms_rel hB ws _ hi.2 rs⟩
end
/-- read alone: nothing is off limits -/
theorem frz_any (s : SR (kf X) B ρ h H) (n : Nat) (p q : PV) (v : V) (e : frz h n p = some q) (r : Rel (kf X) B ρ H p v) : Rel (kf X) (fun _ => False) [] H q v :=
  frz_rel s (fun _ _ _ => ⟨id, by simp⟩) (fun _ _ => ⟨id, by simp⟩) n p q v e r

/-! comparisons -/
theorem scal_V {x y : PV} {v w : V} (e : scal x y = true) (r : Rel (kf X) B ρ H x v) (q : Rel (kf X) B ρ H y w) : L2.scal v w = true ∧ decide (v = w) = eqv x y := by
  cases x <;> cases y <;> simp only [Y.scal] at e <;> try contradiction
  all_goals (simp only [Rel] at r q; subst r q; refine ⟨rfl, ?_⟩; simp [eqv, BEq.beq])
theorem flat_V {x : PV} {v : V} (e : flat x = true) (r : Rel (kf X) B ρ H x v) : flatV v = true := by
  cases x <;> simp only [Y.flat] at e <;> try contradiction
  all_goals (simp only [Rel] at r; subst r; rfl)
theorem eqv_V {x y : PV} {v w : V} (e : flat x = true) (e' : flat y = true) (r : Rel (kf X) B ρ H x v) (q : Rel (kf X) B ρ H y w) : L2.eqV v w = eqv x y := by
  cases x <;> simp only [Y.flat] at e <;> try contradiction
  all_goals (cases y <;> simp only [Y.flat] at e' <;> try contradiction)
  all_goals (simp only [Rel] at r q; subst r q; rfl)
theorem flats_V : ∀ {l : List PV} {vs : List V}, l.all flat = true → Rels (kf X) B ρ H l vs → vs.all flatV = true
  | [], vs, _, r => by rw [r.nil_inv]; rfl
  | x :: xs, vs, h, r => by
    simp only [List.all_cons, Bool.and_eq_true] at h
    obtain ⟨w, ws, rfl, a, b⟩ := r.cons_inv
    simp only [List.all_cons, Bool.and_eq_true]
    exact ⟨flat_V h.1 a, flats_V h.2 b⟩
theorem inV_V {x : PV} {v : V} (e : flat x = true) (rx : Rel (kf X) B ρ H x v) : ∀ {l : List PV} {vs : List V}, l.all flat = true → Rels (kf X) B ρ H l vs → L2.inV v vs = l.any (fun z => eqv z x)
  | [], vs, _, r => by rw [r.nil_inv]; rfl
  | y :: ys, vs, h, r => by
    simp only [List.all_cons, Bool.and_eq_true] at h
    obtain ⟨w, ws, rfl, a, b⟩ := r.cons_inv
    have ih := inV_V e rx h.2 b
    unfold L2.inV at ih ⊢
    simp only [List.any_cons]
    rw [eqv_V h.1 e a rx, ih]
theorem any_toD {n : Nat} {x : PV} (e : shp n x = true) : ∀ {l : List PV}, l.all (shp n) = true → (toDs l).any (fun z => PyData.eqv z (toD x)) = l.any (fun z => eqv z x)
  | [], _ => rfl
  | y :: ys, h => by
    simp only [List.all_cons, Bool.and_eq_true] at h
    simp only [toDs, List.any_cons]
    rw [eqv_toD n n y x h.1 e, any_toD e h.2]
/-- in, of a sequence -/
def rInA (X : Cx) (neg : Bool) : R2 := fun x y H Q => ∃ d p vs ds, y = .ref p ∧ (SqL X.K H p vs ∨ SqT X.K H p vs) ∧ Dp X.K H x d ∧ DpAll X.K H vs ds ∧ SeqAt.shaped d = true ∧ PyData.canLayAll0 ds = true ∧ Q (.bl (if neg then !(ds.any fun z => PyData.eqv z d) else ds.any fun z => PyData.eqv z d)) H
theorem op_inA (hu : X.A.units + 65 < cLine) : OpR X (compareOp .In) (rInA X false) := by
  intro pins s σ H x y v u Q I rx ry hh
  obtain ⟨d, p, vs, ds, rfl, hq, hd, hds, sd, se, q⟩ := hh
  obtain ⟨as, r1⟩ := Dp.reads I d x v hd rx
  rcases hq with hq | hq
  · obtain ⟨bs, r2⟩ := Dp.reads I (.list ds) _ u (.lst hq hds) ry
    exact SeqAt.in_list_reads r2 r1 se (SeqAt.canLay_of_shaped sd) (room_in_shaped sd hu) ⟨.bl _, H, I, rfl, q⟩
  · obtain ⟨bs, r2⟩ := Dp.reads I (.tuple ds) _ u (.tup hq hds) ry
    exact SeqAt.in_tuple_reads r2 r1 se (SeqAt.canLay_of_shaped sd) (room_in_shaped sd hu) ⟨.bl _, H, I, rfl, q⟩
theorem op_notInA (hu : X.A.units + 65 < cLine) : OpR X (compareOp .NotIn) (rInA X true) := by
  intro pins s σ H x y v u Q I rx ry hh
  obtain ⟨d, p, vs, ds, rfl, hq, hd, hds, sd, se, q⟩ := hh
  obtain ⟨as, r1⟩ := Dp.reads I d x v hd rx
  rcases hq with hq | hq
  · obtain ⟨bs, r2⟩ := Dp.reads I (.list ds) _ u (.lst hq hds) ry
    exact SeqAt.notIn_list_reads r2 r1 se (SeqAt.canLay_of_shaped sd) (room_in_shaped sd hu) ⟨.bl _, H, I, rfl, q⟩
  · obtain ⟨bs, r2⟩ := Dp.reads I (.tuple ds) _ u (.tup hq hds) ry
    exact SeqAt.notIn_tuple_reads r2 r1 se (SeqAt.canLay_of_shaped sd) (room_in_shaped sd hu) ⟨.bl _, H, I, rfl, q⟩
/-- in, of a dict -/
def rInDc (neg : Bool) : R2 := fun y x H Q => ∃ a o, x = .ref a ∧ DGet H a y o ∧ Q (.bl (if neg then !o.isSome else o.isSome)) H
theorem op_inDc (hu : X.A.units + 1 < cLine) : OpR X (compareOp .In) (rInDc false) := by
  intro pins s σ H y x u v Q I ry rx hh
  obtain ⟨a, o, rfl, g, q⟩ := hh
  cases rx
  exact d_in hu I g ry fun s' I' => ⟨.bl _, H, I', rfl, q⟩
theorem op_notInDc (hu : X.A.units + 1 < cLine) : OpR X (compareOp .NotIn) (rInDc true) := by
  intro pins s σ H y x u v Q I ry rx hh
  obtain ⟨a, o, rfl, g, q⟩ := hh
  cases rx
  exact d_notIn hu I g ry fun s' I' => ⟨.bl _, H, I', rfl, q⟩
/-- keys -/
def toK : PV → Key
  | .int i => .inl i
  | .str x => .inr x
  | _ => .inl 0
theorem toK_keyP {k : Key} : toK (keyP k) = k := by cases k <;> rfl
theorem keyP_toK {k : PV} (e : isKey k = true) : keyP (toK k) = k := by cases k <;> simp only [isKey] at e <;> first | contradiction | rfl
theorem key_V {k : PV} {v : V} (e : isKey k = true) (r : Rel (kf X) B ρ H k v) : v = kV (toK k) := by
  cases k <;> simp only [isKey] at e <;> try contradiction
  all_goals (simp only [Rel] at r; subst r; rfl)
theorem keyP_inj {a b : Key} (e : keyP a = keyP b) : a = b := by
  have := congrArg toK e
  rwa [toK_keyP, toK_keyP] at this
theorem dget_V {k : PV} (e : isKey k = true) : ∀ {kvs : List (Key × V)} {ws : List PV}, Rels (kf X) B ρ H ws (kvs.map (·.2)) →
    (∀ o, dget k (kvs.map fun p => keyP p.1) ws = some o → ∃ v, valV kvs (toK k) = some v ∧ Rel (kf X) B ρ H o v) ∧ (dget k (kvs.map fun p => keyP p.1) ws = none → valV kvs (toK k) = none)
  | [], ws, r => by
    rw [show ws = [] from List.eq_nil_of_length_eq_zero (by rw [r.length]; rfl)]
    exact ⟨fun o q => by simp [dget] at q, fun _ => rfl⟩
  | p :: kvs, ws, r => by
    cases ws with
    | nil => exact absurd r.length (by simp)
    | cons w ws =>
      obtain ⟨v, vs, q, a, b⟩ := r.cons_inv
      simp only [List.map_cons] at q
      injection q with q1 q2
      subst q1 q2
      have ih := dget_V e b
      by_cases hk : keyP p.1 = k
      · have hk' : p.1 = toK k := by rw [← hk, toK_keyP]
        rw [valV_pos hk']
        simp only [List.map_cons, dget, hk, if_true]
        exact ⟨fun o q => by cases q; exact ⟨_, rfl, a⟩, fun q => by cases q⟩
      · have hk' : ¬ p.1 = toK k := fun q => hk (by rw [q, keyP_toK e])
        rw [valV_neg hk']
        simp only [List.map_cons, dget, hk, if_false]
        exact ih
theorem dget_some {k : PV} (e : isKey k = true) {kvs : List (Key × V)} {ws : List PV} (r : Rels (kf X) B ρ H ws (kvs.map (·.2))) : (valV kvs (toK k)).isSome = (dget k (kvs.map fun p => keyP p.1) ws).isSome := by
  obtain ⟨h1, h2⟩ := dget_V e r
  cases q : dget k (kvs.map fun p => keyP p.1) ws with
  | none => rw [h2 q]; rfl
  | some o => obtain ⟨v, e1, _⟩ := h1 o q; rw [e1]; rfl

theorem cmp_ok0 (o : Cmp) (ho : o ≠ .lt) (hr : ∃ k, Room k X.A) : ∃ r : R2, OpR X (compareOp (cmpA o)) r ∧ ∀ {B : Addr → Prop} {ρ : List Addr} {h : Hh} {H : Hp} {p q : PV} {z : Bool} {v w : V} {Q : VK}, SR (kf X) B ρ h H → Rel (kf X) B ρ H p v → Rel (kf X) B ρ H q w → cmpV h o p q = some z →
    Q (.bl z) H → r v w H Q := by
  obtain ⟨k, hr⟩ := hr
  have hu : X.A.units + 64 < cLine := hr.units
  have hu5 : X.A.units + 65 < cLine := by have := hr.un; omega
  have hu1 : X.A.units + 1 < cLine := by omega
  have i2 : ∀ {p q : PV} {f : Int → Int → Bool} {g : Str → Str → Bool} {z : Bool}, (match p, q with | .int i, .int j => some (f i j) | .str a, .str b => some (g a b) | _, _ => none) = some z → (∃ i j, p = .int i ∧ q = .int j ∧ z = f i j) ∨ (∃ a b, p = .str a ∧ q = .str b ∧ z = g a b) := by
    intro p q f g z e
    split at e <;> try contradiction
    · cases e
      exact .inl ⟨_, _, rfl, rfl, rfl⟩
    · cases e
      exact .inr ⟨_, _, rfl, rfl, rfl⟩
  have i3 : ∀ {p q : PV} {z : Bool}, sgnIn p q = some z → ∃ c b, p = .str ⟨#[c]⟩ ∧ q = .str b ∧ z = decide (c ∈ b.cps.toList) := by
    intro p q z e
    unfold sgnIn at e
    split at e <;> try contradiction
    split at e <;> try contradiction
    rename_i a b _ c hc
    cases e
    refine ⟨c, b, ?_, rfl, rfl⟩
    obtain ⟨⟨l⟩⟩ := a
    simp at hc
    subst hc
    rfl
  cases o with
  | isn =>
    refine ⟨_, op_isN (X := X), fun {B ρ h H p q z v w Q} s rp rq e ot => ?_⟩
    simp only [cmpV] at e
    split at e <;> try contradiction
    rename_i hq
    cases e
    subst hq
    refine ⟨rq.non_inv, ?_⟩
    have : decide (v = .non) = decide (p = .non) := by
      cases p <;> simp only [Rel] at rp
      all_goals first | (obtain ⟨_, _, rfl, _⟩ := rp; simp) | (obtain ⟨_, _, rfl⟩ := rp; simp) | (subst rp; simp)
    rw [this]
    exact ot
  | notn =>
    refine ⟨_, op_notN (X := X), fun {B ρ h H p q z v w Q} s rp rq e ot => ?_⟩
    simp only [cmpV] at e
    split at e <;> try contradiction
    rename_i hq
    cases e
    subst hq
    refine ⟨rq.non_inv, ?_⟩
    have : decide (v = .non) = decide (p = .non) := by
      cases p <;> simp only [Rel] at rp
      all_goals first | (obtain ⟨_, _, rfl, _⟩ := rp; simp) | (obtain ⟨_, _, rfl⟩ := rp; simp) | (subst rp; simp)
    rw [this]
    exact ot
  | lt => exact absurd rfl ho
  | le =>
    refine ⟨_, (op_le (X := X)).or (op_le_str (X := X)), fun {B ρ h H p q z v w Q} s rp rq e ot => ?_⟩
    simp only [cmpV] at e
    rcases i2 e with ⟨i, j, rfl, rfl, rfl⟩ | ⟨i, j, rfl, rfl, rfl⟩
    · rw [rp.int_inv, rq.int_inv]
      exact .inl ⟨_, _, rfl, rfl, ot⟩
    · rw [rp.str_inv, rq.str_inv]
      exact .inr ⟨_, _, rfl, rfl, ot⟩
  | gt =>
    refine ⟨_, (op_gt (X := X)).or (op_gt_str (X := X)), fun {B ρ h H p q z v w Q} s rp rq e ot => ?_⟩
    simp only [cmpV] at e
    rcases i2 e with ⟨i, j, rfl, rfl, rfl⟩ | ⟨i, j, rfl, rfl, rfl⟩
    · rw [rp.int_inv, rq.int_inv]
      exact .inl ⟨_, _, rfl, rfl, ot⟩
    · rw [rp.str_inv, rq.str_inv]
      exact .inr ⟨_, _, rfl, rfl, ot⟩
  | ge =>
    refine ⟨_, (op_ge (X := X)).or (op_ge_str (X := X)), fun {B ρ h H p q z v w Q} s rp rq e ot => ?_⟩
    simp only [cmpV] at e
    rcases i2 e with ⟨i, j, rfl, rfl, rfl⟩ | ⟨i, j, rfl, rfl, rfl⟩
    · rw [rp.int_inv, rq.int_inv]
      exact .inl ⟨_, _, rfl, rfl, ot⟩
    · rw [rp.str_inv, rq.str_inv]
      exact .inr ⟨_, _, rfl, rfl, ot⟩
  | eq =>
    refine ⟨_, (op_eq (X := X)).or (op_eqD hu), fun {B ρ h H p q z v w Q} s rp rq e ot => ?_⟩
    simp only [cmpV] at e
    split at e
    · rename_i hs
      cases e
      obtain ⟨h1, h2⟩ := scal_V hs rp rq
      exact .inl ⟨h1, by rw [h2]; exact ot⟩
    · split at e <;> try contradiction
      rename_i p' q' hp hq
      split at e <;> try contradiction
      rename_i hs
      rw [Bool.and_eq_true] at hs
      cases e
      refine .inr ⟨toD p', toD q', dp_of 20 p' v hs.1 (frz_any s _ p p' v hp rp), dp_of 20 q' w hs.2 (frz_any s _ q q' w hq rq), shaped_of (by decide) hs.1, shaped_of (by decide) hs.2, ?_⟩
      rw [eqv_toD 20 20 p' q' hs.1 hs.2]
      exact ot
  | ne =>
    refine ⟨_, (op_ne (X := X)).or (op_neD hu), fun {B ρ h H p q z v w Q} s rp rq e ot => ?_⟩
    simp only [cmpV] at e
    split at e
    · rename_i hs
      cases e
      obtain ⟨h1, h2⟩ := scal_V hs rp rq
      exact .inl ⟨h1, by rw [h2]; exact ot⟩
    · split at e <;> try contradiction
      rename_i p' q' hp hq
      split at e <;> try contradiction
      rename_i hs
      rw [Bool.and_eq_true] at hs
      cases e
      refine .inr ⟨toD p', toD q', dp_of 20 p' v hs.1 (frz_any s _ p p' v hp rp), dp_of 20 q' w hs.2 (frz_any s _ q q' w hq rq), shaped_of (by decide) hs.1, shaped_of (by decide) hs.2, ?_⟩
      rw [eqv_toD 20 20 p' q' hs.1 hs.2]
      exact ot
  | inn =>
    refine ⟨_, (((op_in_seq (X := X)).or (op_inA hu5)).or (op_inDc hu1)).or (op_in_sign (X := X)), fun {B ρ h H p q z v w Q} s rp rq e ot => ?_⟩
    simp only [cmpV] at e
    split at e
    · rename_i ks ws hd
      split at e <;> try contradiction
      rename_i hk
      cases e
      obtain ⟨a, kvs, rfl, f, zz, rfl, rs⟩ := dct_at s rq hd
      refine .inl <| .inr ⟨a, _, rfl, by rw [key_V hk rp]; exact DGet.k f, ?_⟩
      rw [dget_some hk rs]
      exact ot
    · split at e
      rotate_left
      · obtain ⟨c, b, rfl, rfl, rfl⟩ := i3 e
        rw [rp.str_inv, rq.str_inv]
        exact .inr ⟨c, b, rfl, rfl, ot⟩
      rename_i l hl
      split at e <;> try contradiction
      rename_i hc
      cases e
      obtain ⟨a, vs, rfl, hq, zz, rs⟩ := seq_at s rq hl
      rw [Bool.or_eq_true, Bool.and_eq_true, Bool.and_eq_true] at hc
      rcases hc with hc | hc
      · refine .inl <| .inl (.inl ⟨a, vs, rfl, hq, flat_V hc.1 rp, flats_V hc.2 rs, ?_⟩)
        simp only [Bool.false_eq_true, if_false]
        rw [inV_V hc.1 rp hc.2 rs]
        exact ot
      · refine .inl <| .inl (.inr ⟨toD p, a, vs, toDs l, rfl, hq, dp_of 20 p v hc.1 rp, dps_of 20 l vs hc.2 rs, shaped_of (by decide) hc.1, (lay_all 20 l hc.2).1, ?_⟩)
        simp only [Bool.false_eq_true, if_false]
        rw [any_toD hc.1 hc.2]
        exact ot
  | nin =>
    refine ⟨_, (((op_notIn_seq (X := X)).or (op_notInA hu5)).or (op_notInDc hu1)).or (op_notIn_sign (X := X)), fun {B ρ h H p q z v w Q} s rp rq e ot => ?_⟩
    simp only [cmpV] at e
    split at e
    · rename_i ks ws hd
      split at e <;> try contradiction
      rename_i hk
      cases e
      obtain ⟨a, kvs, rfl, f, zz, rfl, rs⟩ := dct_at s rq hd
      refine .inl <| .inr ⟨a, _, rfl, by rw [key_V hk rp]; exact DGet.k f, ?_⟩
      rw [dget_some hk rs]
      exact ot
    · split at e
      rotate_left
      · obtain ⟨z', e1, rfl⟩ := Option.map_eq_some_iff.mp e
        obtain ⟨c, b, rfl, rfl, rfl⟩ := i3 e1
        rw [rp.str_inv, rq.str_inv]
        exact .inr ⟨c, b, rfl, rfl, ot⟩
      rename_i l hl
      split at e <;> try contradiction
      rename_i hc
      cases e
      obtain ⟨a, vs, rfl, hq, zz, rs⟩ := seq_at s rq hl
      rw [Bool.or_eq_true, Bool.and_eq_true, Bool.and_eq_true] at hc
      rcases hc with hc | hc
      · refine .inl <| .inl (.inl ⟨a, vs, rfl, hq, flat_V hc.1 rp, flats_V hc.2 rs, ?_⟩)
        simp only [if_true]
        rw [inV_V hc.1 rp hc.2 rs]
        exact ot
      · refine .inl <| .inl (.inr ⟨toD p, a, vs, toDs l, rfl, hq, dp_of 20 p v hc.1 rp, dps_of 20 l vs hc.2 rs, shaped_of (by decide) hc.1, (lay_all 20 l hc.2).1, ?_⟩)
        simp only [if_true]
        rw [any_toD hc.1 hc.2]
        exact ot
end
end Y

/-! K3g: sorted of tuples of ints and texts, of any depth -/
namespace Y
open PySem PySem.Spec PyProof.Rows L2

/-! the order -/
theorem ltp_swo (k : Value → PV) : SrtO.Swo fun v u => ltp (k v) (k u) := by
  refine ⟨fun x y h => ?_, fun x y z h1 h2 => ?_⟩
  · cases e : ltp (k y) (k x) with
    | false => rfl
    | true =>
      have := lex_trans (O := itemOrd) _ _ _ h e
      rw [lex_irrefl] at this
      cases this
  · cases e : ltp (k z) (k x) with
    | false => rfl
    | true =>
      rcases lex_negTrans (O := itemOrd) _ (toks (k y)) _ e with q | q
      · exact absurd (show ltp (k z) (k y) = true from q) (by rw [h2]; decide)
      · exact absurd (show ltp (k y) (k x) = true from q) (by rw [h1]; decide)
theorem ltp_swoP : SrtO.Swo ltp := by
  refine ⟨fun x y h => ?_, fun x y z h1 h2 => ?_⟩
  · cases e : ltp y x with
    | false => rfl
    | true =>
      have := lex_trans (O := itemOrd) _ _ _ h e
      rw [lex_irrefl] at this
      cases this
  · cases e : ltp z x with
    | false => rfl
    | true =>
      rcases lex_negTrans (O := itemOrd) _ (toks y) _ e with q | q
      · exact absurd (show ltp z y = true from q) (by rw [h2]; decide)
      · exact absurd (show ltp y x = true from q) (by rw [h1]; decide)
theorem lexA {p q : Int ⊕ List Nat} (hne : p ≠ q) (l m : List (Int ⊕ List Nat)) : tokLt (p :: l) (q :: m) = tokLt [p] [q] := PySem.W.lex_atom hne l m
mutual
/-- where two comparable ones differ, what follows does not matter -/
theorem toks_ne : ∀ (x y : PV), cmpOk x y = true → x ≠ y → ∀ l m, tokLt (toks x ++ l) (toks y ++ m) = ltp x y
  | .int i, y, h, n, l, m => by
    cases y <;> simp only [cmpOk] at h <;> try contradiction
    exact lexA (fun q => n (by injection q with q; rw [q])) l m
  | .str a, y, h, n, l, m => by
    cases y <;> simp only [cmpOk] at h <;> try contradiction
    exact lexA (fun q => n (by injection q with q; rw [PySem.W.str_of_cps q])) l m
  | .tup xs, y, h, n, l, m => by
    cases y <;> simp only [cmpOk] at h <;> try contradiction
    exact toksA_ne xs _ h (fun q => n (by rw [q])) l m
  | .non, y, h, n, l, m => by simp [cmpOk] at h
  | .bl _, y, h, n, l, m => by simp [cmpOk] at h
  | .lst _, y, h, n, l, m => by simp [cmpOk] at h
  | .dct _ _, y, h, n, l, m => by simp [cmpOk] at h
  | .ref _, y, h, n, l, m => by simp [cmpOk] at h
  | .scr _, y, h, n, l, m => by simp [cmpOk] at h
theorem toksA_ne : ∀ (xs ys : List PV), cmpOks xs ys = true → xs ≠ ys → ∀ l m, tokLt (toksA xs ++ l) (toksA ys ++ m) = tokLt (toksA xs) (toksA ys)
  | [], [], h, n, l, m => absurd rfl n
  | [], y :: ys, h, n, l, m => by
    simp only [toksA, List.cons_append, List.nil_append]
    exact (lexA (by simp) _ _).trans (lexA (by simp) _ _).symm
  | x :: xs, [], h, n, l, m => by
    simp only [toksA, List.cons_append, List.nil_append]
    exact (lexA (by simp) _ _).trans (lexA (by simp) _ _).symm
  | x :: xs, y :: ys, h, n, l, m => by
    simp only [cmpOks] at h
    simp only [toksA, List.cons_append, List.append_assoc]
    unfold tokLt
    rw [lex_self, lex_self]
    by_cases e : x = y
    · subst e
      rw [if_pos rfl] at h
      rw [PySem.W.lex_pre, PySem.W.lex_pre]
      exact toksA_ne xs ys h (fun q => n (by rw [q])) l m
    · rw [if_neg e] at h
      exact (toks_ne x y h e _ _).trans (toks_ne x y h e _ _).symm
end
theorem ltp_tup_same {x : PV} {xs ys : List PV} : ltp (.tup (x :: xs)) (.tup (x :: ys)) = ltp (.tup xs) (.tup ys) := by
  show tokLt (toksA (x :: xs)) (toksA (x :: ys)) = _
  simp only [toksA]
  unfold tokLt
  rw [lex_self, PySem.W.lex_pre]
  rfl
theorem ltp_tup_ne {x y : PV} {xs ys : List PV} (h : cmpOk x y = true) (n : x ≠ y) : ltp (.tup (x :: xs)) (.tup (y :: ys)) = ltp x y := by
  show tokLt (toksA (x :: xs)) (toksA (y :: ys)) = _
  simp only [toksA]
  unfold tokLt
  rw [lex_self]
  exact toks_ne x y h n _ _
theorem ltp_tup_nil {y : PV} {ys : List PV} : ltp (.tup []) (.tup (y :: ys)) = true := by
  show tokLt (toksA []) (toksA (y :: ys)) = true
  simp only [toksA]
  unfold tokLt
  rw [lex_diff (by simp)]
  decide
theorem ltp_tup_nilR {y : PV} {ys : List PV} : ltp (.tup (y :: ys)) (.tup []) = false := by
  show tokLt (toksA (y :: ys)) (toksA []) = false
  simp only [toksA]
  unfold tokLt
  rw [lex_diff (by simp)]
  decide
theorem ltp_irr {x : PV} : ltp x x = false := lex_irrefl _
theorem ltp_int {i j : Int} : ltp (.int i) (.int j) = decide (i < j) := by
  show PyProof.Rows.lexLt itemOrd [.inl i] [.inl j] = _
  rw [PySem.W.lex_one]
  rfl
theorem ltp_str {a b : Str} : ltp (.str a) (.str b) = decide (a.cps.toList < b.cps.toList) := by
  show PyProof.Rows.lexLt itemOrd [.inr a.cps.toList] [.inr b.cps.toList] = _
  rw [PySem.W.lex_one]
  rfl
mutual
theorem eqv_sdat : ∀ (x y : PV), sdat x = true → sdat y = true → eqv x y = decide (x = y)
  | .int i, y, h, g => by cases y <;> simp only [sdat] at g <;> first | contradiction | exact Bool.eq_iff_iff.mpr (by simp [eqv])
  | .str a, y, h, g => by cases y <;> simp only [sdat] at g <;> first | contradiction | exact Bool.eq_iff_iff.mpr (by simp [eqv])
  | .tup xs, y, h, g => by
    cases y <;> simp only [sdat] at g h <;> try contradiction
    · simp [eqv]
    · simp [eqv]
    · rw [eqv, eqvs_sdat xs _ h g]
      simp
  | .non, y, h, g => by simp [sdat] at h
  | .bl _, y, h, g => by simp [sdat] at h
  | .lst _, y, h, g => by simp [sdat] at h
  | .dct _ _, y, h, g => by simp [sdat] at h
  | .ref _, y, h, g => by simp [sdat] at h
  | .scr _, y, h, g => by simp [sdat] at h
theorem eqvs_sdat : ∀ (xs ys : List PV), sdats xs = true → sdats ys = true → eqvs xs ys = decide (xs = ys)
  | [], [], h, g => by simp [eqvs]
  | [], y :: ys, h, g => by simp [eqvs]
  | x :: xs, [], h, g => by simp [eqvs]
  | x :: xs, y :: ys, h, g => by
    simp only [sdats, Bool.and_eq_true] at h g
    rw [eqvs, eqv_sdat x y h.1 g.1, eqvs_sdat xs ys h.2 g.2]
    simp
end
/-! the model's comparisons of such data -/
section
variable {prog : Program} {w : World} {A : Around} {s : Shared}
theorem readsAll_get {h : Heap} : ∀ (vs : List Value) (xs : List PV) (as : List Addr), ReadsAll h vs (toDs xs) as → vs.length = xs.length ∧ ∀ (j : Nat) (h1 : j < vs.length), ∃ as', Reads h vs[j] (toD (xs.getD j .non)) as'
  | [], [], as, r => ⟨rfl, fun j h1 => absurd h1 (Nat.not_lt_zero _)⟩
  | [], x :: xs, as, r => by cases r
  | v :: vs, [], as, r => by cases r
  | v :: vs, x :: xs, as, r => by
    cases r with
    | cons r1 r2 =>
      obtain ⟨e, g⟩ := readsAll_get vs xs _ r2
      refine ⟨by simp [e], fun j h1 => ?_⟩
      cases j with
      | zero => exact ⟨_, r1⟩
      | succ j =>
        obtain ⟨as', q⟩ := g j (by simpa using h1)
        exact ⟨as', by simpa using q⟩
theorem all_getD {P : PV → Bool} {l : List PV} {j : Nat} (h : l.all P = true) (hj : j < l.length) : P (l.getD j .non) = true := by
  rw [List.getD_eq_getElem?_getD, List.getElem?_eq_getElem hj]
  exact List.all_eq_true.mp h _ (List.getElem_mem hj)
theorem sdats_all : ∀ {l : List PV}, sdats l = true → l.all sdat = true
  | [], _ => rfl
  | x :: l, h => by
    simp only [sdats, Bool.and_eq_true] at h
    simp only [List.all_cons, Bool.and_eq_true]
    exact ⟨h.1, sdats_all h.2⟩
theorem cmpOks_drop : ∀ (xs ys : List PV) (i : Nat), cmpOks xs ys = true → (∀ j, j < i → xs.getD j .non = ys.getD j .non) → cmpOks (xs.drop i) (ys.drop i) = true
  | xs, ys, 0, h, _ => h
  | [], ys, i + 1, h, _ => by simp only [List.drop_nil]; cases ys.drop (i + 1) <;> rfl
  | x :: xs, [], i + 1, h, _ => by simp only [List.drop_nil]; cases (x :: xs).drop (i + 1) <;> rfl
  | x :: xs, y :: ys, i + 1, h, q => by
    have e : x = y := by simpa using q 0 (Nat.succ_pos _)
    subst e
    simp only [cmpOks, if_true] at h
    exact cmpOks_drop xs ys i h fun j hj => by simpa using q (j + 1) (Nat.succ_lt_succ hj)
abbrev eAt (xs ys : List PV) : Nat → Bool := fun j => decide (xs.getD j .non = ys.getD j .non)
abbrev rAt (xs ys : List PV) : Nat → Bool := fun j => ltp (xs.getD j .non) (ys.getD j .non)
theorem lexAt_ltp (xs ys : List PV) : ∀ (k i : Nat), min xs.length ys.length = i + k → cmpOks (xs.drop i) (ys.drop i) = true → Ob.lexAt (eAt xs ys) (rAt xs ys) (decide (xs.length < ys.length)) i k = ltp (.tup (xs.drop i)) (.tup (ys.drop i))
  | 0, i, hm, h => by
    rw [Ob.lexAt_zero]
    rcases Nat.lt_trichotomy xs.length ys.length with q | q | q
    · rw [decide_eq_true q, List.drop_of_length_le (show xs.length ≤ i by omega)]
      obtain ⟨y, ys', e⟩ : ∃ y ys', ys.drop i = y :: ys' := ⟨_, _, List.drop_eq_getElem_cons (show i < ys.length by omega)⟩
      rw [e, ltp_tup_nil]
    · rw [decide_eq_false (by omega), List.drop_of_length_le (show xs.length ≤ i by omega), List.drop_of_length_le (show ys.length ≤ i by omega), ltp_irr]
    · rw [decide_eq_false (by omega), List.drop_of_length_le (show ys.length ≤ i by omega)]
      obtain ⟨y, ys', e⟩ : ∃ y ys', xs.drop i = y :: ys' := ⟨_, _, List.drop_eq_getElem_cons (show i < xs.length by omega)⟩
      rw [e, ltp_tup_nilR]
  | k + 1, i, hm, h => by
    have h1 : i < xs.length := by omega
    have h2 : i < ys.length := by omega
    rw [Ob.lexAt_succ]
    rw [List.drop_eq_getElem_cons h1, List.drop_eq_getElem_cons h2] at h ⊢
    have e1 : xs.getD i .non = xs[i] := by rw [List.getD_eq_getElem?_getD, List.getElem?_eq_getElem h1]; rfl
    have e2 : ys.getD i .non = ys[i] := by rw [List.getD_eq_getElem?_getD, List.getElem?_eq_getElem h2]; rfl
    unfold eAt rAt
    rw [e1, e2]
    simp only [cmpOks] at h
    by_cases e : xs[i] = ys[i]
    · rw [if_pos e] at h
      rw [if_pos (decide_eq_true e), e, ltp_tup_same]
      exact lexAt_ltp xs ys k (i + 1) (by omega) h
    · rw [if_neg e] at h
      rw [if_neg (by simpa using e), ltp_tup_ne h e]
theorem getD_at {l : List PV} {j : Nat} (h : j < l.length) : l.getD j .non = l[j] := by rw [List.getD_eq_getElem?_getD, List.getElem?_eq_getElem h]; rfl
mutual
theorem kinA_ok : ∀ (x y : PV), kinA x y = true → cmpOk x y = true
  | .int i, y, h => by cases y <;> simp only [kinA] at h <;> first | contradiction | rfl
  | .str i, y, h => by cases y <;> simp only [kinA] at h <;> first | contradiction | rfl
  | .tup xs, y, h => by
    cases y <;> simp only [kinA] at h <;> try contradiction
    exact kinAs_ok xs _ h
  | .non, y, h => by simp [kinA] at h
  | .bl _, y, h => by simp [kinA] at h
  | .lst _, y, h => by simp [kinA] at h
  | .dct _ _, y, h => by simp [kinA] at h
  | .ref _, y, h => by simp [kinA] at h
  | .scr _, y, h => by simp [kinA] at h
theorem kinAs_ok : ∀ (xs ys : List PV), kinAs xs ys = true → cmpOks xs ys = true
  | [], ys, h => by cases ys <;> rfl
  | x :: xs, [], h => rfl
  | x :: xs, y :: ys, h => by
    simp only [kinAs, Bool.and_eq_true, Bool.or_eq_true, decide_eq_true_eq] at h
    simp only [cmpOks]
    split
    · exact kinAs_ok xs ys h.2
    · rename_i n
      exact kinA_ok x y (h.1.resolve_left n)
end
theorem kinAs_at : ∀ (xs ys : List PV) (j : Nat), kinAs xs ys = true → j < xs.length → j < ys.length → xs.getD j .non ≠ ys.getD j .non → kinA (xs.getD j .non) (ys.getD j .non) = true
  | [], ys, j, h, h1, _, _ => absurd h1 (Nat.not_lt_zero _)
  | x :: xs, [], j, h, _, h2, _ => absurd h2 (Nat.not_lt_zero _)
  | x :: xs, y :: ys, 0, h, _, _, n => by
    simp only [kinAs, Bool.and_eq_true, Bool.or_eq_true, decide_eq_true_eq] at h
    exact h.1.resolve_left (by simpa using n)
  | x :: xs, y :: ys, j + 1, h, h1, h2, n => by
    simp only [kinAs, Bool.and_eq_true] at h
    simpa using kinAs_at xs ys j h.2 (by simpa using h1) (by simpa using h2) (by simpa using n)
theorem topOks_ok : ∀ (xs ys : List PV), topOks xs ys = true → cmpOks xs ys = true
  | [], ys, h => by cases ys <;> rfl
  | x :: xs, [], h => rfl
  | x :: xs, y :: ys, h => by
    simp only [topOks] at h
    simp only [cmpOks]
    split at h
    · rename_i e; rw [if_pos e]; exact topOks_ok xs ys h
    · rename_i e; rw [if_neg e]; exact kinA_ok x y h
theorem eq_reads {x y : PV} {n : Nat} {A : Around} {a b : Value} {as bs : List Addr} (ra : Reads s.heap a (toD x) as) (rb : Reads s.heap b (toD y) bs) (sx : sdat x = true) (sy : sdat y = true) (hx : shp n x = true) (hy : shp n y = true) (hu : A.units + n < cLine) : SeqAt.EqAt A s a b (decide (x = y)) := by
  have l1 := lay_of n x hx
  have l2 := lay_of n y hy
  have := SeqAt.eqAt_reads (toD x) (toD y) A s a b as bs ra rb l1.1 l2.1 (by
    have : min (toD x).depth (toD y).depth ≤ (toD x).depth := Nat.min_le_left _ _
    omega)
  rwa [eqv_toD n n x y hx hy, eqv_sdat x y sx sy] at this
theorem rc_lt : ∀ (n : Nat) (x y : PV) (A : Around) (a b : Value) (as bs : List Addr), Reads s.heap a (toD x) as → Reads s.heap b (toD y) bs → sdat x = true → sdat y = true → shp n x = true → shp n y = true → kinA x y = true → A.units + n < cLine → Ob.RcOp .Lt A s a b (ltp x y) := by
  intro n
  induction n with
  | zero =>
    intro x y A a b as bs ra rb sx sy hx hy hc hu
    cases x <;> cases y <;> simp only [kinA] at hc <;> try contradiction
    · cases ra
      cases rb
      rw [ltp_int]
      exact Ob.RcOp.lt_int _ _ _ _
    · cases ra
      cases rb
      rw [ltp_str]
      exact fun _ _ _ _ h => PySem.P.lt_str h
  | succ n ih =>
    intro x y A a b as bs ra rb sx sy hx hy hc hu
    cases x <;> cases y <;> simp only [kinA] at hc <;> try contradiction
    · cases ra
      cases rb
      rw [ltp_int]
      exact Ob.RcOp.lt_int _ _ _ _
    · cases ra
      cases rb
      rw [ltp_str]
      exact fun _ _ _ _ h => PySem.P.lt_str h
    · rename_i xs ys
      simp only [sdat] at sx sy
      have sx := sdats_all sx
      have sy := sdats_all sy
      have hx : xs.all (shp n) = true := by simpa [shp] using hx
      have hy : ys.all (shp n) = true := by simpa [shp] using hy
      simp only [toD] at ra rb
      cases ra with
      | @tuple a o vs m _ _ h1 h2 h3 h4 =>
        cases rb with
        | @tuple b o' ws m' _ _ k1 k2 k3 k4 =>
          obtain ⟨e1, g1⟩ := readsAll_get _ _ _ h4
          obtain ⟨e2, g2⟩ := readsAll_get _ _ _ k4
          have s1 : vs.size = xs.length := by simpa using e1
          have s2 : ws.size = ys.length := by simpa using e2
          have T := Ob.RcOp.tuples_lt (A := A) (s := s) (e := eAt xs ys) (r := rAt xs ys) ⟨_, h1, h2, _, h3⟩ ⟨_, k1, k2, _, k3⟩ (by omega) (fun j j1 j2 => by
            obtain ⟨as', q1⟩ := g1 j (by simpa using j1)
            obtain ⟨bs', q2⟩ := g2 j (by simpa using j2)
            have := eq_reads (A := A.in1) q1 q2 (all_getD sx (by omega)) (all_getD sy (by omega)) (all_getD hx (by omega)) (all_getD hy (by omega)) (by show A.units + 1 + n < cLine; omega)
            unfold eAt
            simpa using this) (fun j j1 j2 hj => by
            obtain ⟨as', q1⟩ := g1 j (by simpa using j1)
            obtain ⟨bs', q2⟩ := g2 j (by simpa using j2)
            have := ih (xs.getD j .non) (ys.getD j .non) A.in1 _ _ _ _ q1 q2 (all_getD sx (by omega)) (all_getD sy (by omega)) (all_getD hx (by omega)) (all_getD hy (by omega)) (kinAs_at xs ys j hc (by omega) (by omega) (by simpa using hj)) (by show A.units + 1 + n < cLine; omega)
            unfold rAt
            simpa using this)
          have z := lexAt_ltp xs ys (min xs.length ys.length) 0 (by omega) (kinAs_ok _ _ hc)
          rw [List.drop_zero, List.drop_zero] at z
          rw [s1, s2, z] at T
          exact T
open PySem.W in
theorem one_data {n : Nat} {f : Bool} {x y : PV} {p q : Value} {as bs : List Addr} {Q : Bool → Shared → Prop} {E : Value → Shared → Prop} (ra : Reads s.heap p (toD x) as) (rb : Reads s.heap q (toD y) bs) (sx : sdat x = true) (sy : sdat y = true) (hx : shp n x = true) (hy : shp n y = true) (hc : kinA x y = true) (hu : A.units + n < cLine)
    (hf : f = true → rank x ≠ 2) (hq : Q (ltp x y) s) : wpAny (model prog w) A (oneLt' f p q) Q E s := by
  cases f with
  | false =>
    rw [oneLt'_eq]
    simp only [Bool.false_eq_true, if_false]
    exact wpAny_bind (rc_lt n x y A p q as bs ra rb sx sy hx hy hc hu prog w E _ (wpAny_truthy_bool hq))
  | true =>
    cases x <;> cases y <;> simp only [kinA] at hc <;> try contradiction
    · cases ra
      cases rb
      rw [ltp_int] at hq
      exact oneLt_int hq
    · cases ra
      cases rb
      rw [ltp_str] at hq
      exact oneLt_str hq
    · exact absurd rfl (hf rfl)
open PySem.W in
theorem kat_data {n : Nat} {b fin : Bool} {Q : Bool → Shared → Prop} : ∀ (vs ws : List Value) (xs ys : List PV) (as bs : List Addr) (i : Nat), ReadsAll s.heap vs (toDs xs) as → ReadsAll s.heap ws (toDs ys) bs → xs.all sdat = true → ys.all sdat = true → xs.all (shp n) = true → ys.all (shp n) = true → topOks xs ys = true →
    A.units + n < cLine → (b = true → i = 0 → ∀ x r, xs = x :: r → rank x ≠ 2) → fin = decide (xs.length < ys.length) → Q (ltp (.tup xs) (.tup ys)) s → KatLex prog w A b fin Q (vs.zip ws) i s
  | [], ws, xs, ys, as, bs, i, ra, rb, sx, sy, hx, hy, hc, hu, hb, hf, hq => by
    cases xs with
    | cons x xs => cases ra
    | nil =>
      rw [List.zip_nil_left]
      refine kat_nil ?_
      cases ys with
      | nil => rw [ltp_irr] at hq; rw [hf]; exact hq
      | cons y ys => rw [ltp_tup_nil] at hq; rw [hf]; simpa using hq
  | v :: vs, [], xs, ys, as, bs, i, ra, rb, sx, sy, hx, hy, hc, hu, hb, hf, hq => by
    cases ys with
    | cons x xs => cases rb
    | nil =>
      cases xs with
      | nil => cases ra
      | cons x xs =>
        rw [List.zip_nil_right]
        refine kat_nil ?_
        rw [ltp_tup_nilR] at hq; rw [hf]; simpa using hq
  | v :: vs, w' :: ws, xs, ys, as, bs, i, ra, rb, sx, sy, hx, hy, hc, hu, hb, hf, hq => by
    cases xs with
    | nil => cases ra
    | cons x xs =>
      cases ys with
      | nil => cases rb
      | cons y ys =>
        cases ra with
        | cons r rs =>
          cases rb with
          | cons r' rs' =>
            simp only [List.all_cons, Bool.and_eq_true] at sx sy hx hy
            rw [List.zip_cons_cons]
            refine kat_cons (eq_reads r r' sx.1 sy.1 hx.1 hy.1 hu prog w _ _ ?_)
            simp only [topOks] at hc
            by_cases e : x = y
            · subst e
              rw [if_pos rfl] at hc
              rw [decide_eq_true rfl]
              rw [ltp_tup_same] at hq
              exact kat_yes (kat_data vs ws xs ys _ _ (i + 1) rs rs' sx.2 sy.2 hx.2 hy.2 hc hu (fun _ h => absurd h (Nat.succ_ne_zero i)) (by rw [hf]; simp) hq)
            · rw [if_neg e] at hc
              rw [decide_eq_false e]
              rw [ltp_tup_ne (kinA_ok _ _ hc) e] at hq
              refine kat_no (one_data r r' sx.1 sy.1 hx.1 hy.1 hc hu (fun h => ?_) hq)
              rw [Bool.and_eq_true, beq_iff_eq] at h
              exact hb h.1 h.2 x xs rfl
end
/-! the sorted list -/
theorem insP_at {x : PV} : ∀ {l : List PV}, SrtO.Srtd ltp l → ∃ M N, l = M ++ N ∧ insP x l = M ++ x :: N ∧ (∀ y ∈ M, ltp y x = true) ∧ (∀ y ∈ N, ltp y x = false)
  | [], _ => ⟨[], [], rfl, rfl, by simp, by simp⟩
  | y :: l, h => by
    unfold insP
    by_cases e : ltp y x = true
    · rw [if_pos e]
      obtain ⟨M, N, e1, e2, h1, h2⟩ := insP_at (x := x) (List.pairwise_cons.mp h).2
      refine ⟨y :: M, N, by rw [e1]; rfl, by rw [e2]; rfl, fun z hz => ?_, h2⟩
      rcases List.mem_cons.mp hz with rfl | hz
      · exact e
      · exact h1 z hz
    · rw [if_neg e]
      exact ⟨[], y :: l, rfl, rfl, by simp, ltp_swoP.le_all h (by simpa using e)⟩
theorem sortL_ok : ∀ (l : List PV), SrtO.Srtd ltp (sortL l) ∧ SrtO.Stb ltp (sortL l) l
  | [] => ⟨List.Pairwise.nil, SrtO.Stb.refl _⟩
  | x :: l => by
    obtain ⟨h1, h2⟩ := sortL_ok l
    show SrtO.Srtd ltp (insP x (sortL l)) ∧ SrtO.Stb ltp (insP x (sortL l)) (x :: l)
    obtain ⟨M, N, e1, e2, h3, h4⟩ := insP_at (x := x) h1
    rw [e2]
    rw [e1] at h1 h2
    obtain ⟨sM, sN, sMN⟩ := SrtO.srtd_app.mp h1
    refine ⟨SrtO.srtd_app.mpr ⟨sM, List.pairwise_cons.mpr ⟨fun z hz => h4 z hz, sN⟩, fun a ha b hb => ?_⟩, ?_⟩
    · rcases List.mem_cons.mp hb with rfl | hb
      · exact ltp_swoP.asym _ _ (h3 a ha)
      · exact sMN a ha b hb
    · have q : SrtO.Stb ltp ((M ++ [x]) ++ N) (([x] ++ M) ++ N) := (SrtO.Stb.swap ltp_swoP fun a ha b hb => by rw [List.mem_singleton.mp hb]; exact h3 a ha).app (SrtO.Stb.refl N)
      have e : M ++ x :: N = (M ++ [x]) ++ N := by simp
      rw [e]
      refine q.trans ?_
      have e' : ([x] ++ M) ++ N = [x] ++ (M ++ N) := by simp
      rw [e']
      exact (SrtO.Stb.refl [x]).app h2
theorem sortL_perm (l : List PV) : (sortL l).Perm l := (sortL_ok l).2.perm
mutual
theorem toD_inj : ∀ (x y : PV), sdat x = true → sdat y = true → toD x = toD y → x = y
  | .int i, y, h, g, e => by cases y <;> simp only [sdat] at g <;> first | contradiction | (simp only [toD] at e; injection e with e; rw [e]) | (simp [toD] at e)
  | .str i, y, h, g, e => by cases y <;> simp only [sdat] at g <;> first | contradiction | (simp only [toD] at e; injection e with e; rw [e]) | (simp [toD] at e)
  | .tup xs, y, h, g, e => by
    cases y <;> simp only [sdat] at g h <;> try contradiction
    simp only [toD] at e
    injection e with e
    rw [toDs_inj xs _ h g e]
  | .non, y, h, g, e => by simp [sdat] at h
  | .bl _, y, h, g, e => by simp [sdat] at h
  | .lst _, y, h, g, e => by simp [sdat] at h
  | .dct _ _, y, h, g, e => by simp [sdat] at h
  | .ref _, y, h, g, e => by simp [sdat] at h
  | .scr _, y, h, g, e => by simp [sdat] at h
theorem toDs_inj : ∀ (x y : List PV), sdats x = true → sdats y = true → toDs x = toDs y → x = y
  | [], [], _, _, _ => rfl
  | [], y :: ys, h, g, e => by simp [toDs] at e
  | x :: xs, [], h, g, e => by simp [toDs] at e
  | x :: xs, y :: ys, h, g, e => by
    simp only [sdats, Bool.and_eq_true] at h g
    simp only [toDs] at e
    injection e with e1 e2
    rw [toD_inj x y h.1 g.1 e1, toDs_inj xs ys h.2 g.2 e2]
end
/-- what an item holds -/
noncomputable def kOf (h : Heap) (l : List PV) (u : Value) : PV := open Classical in if e : ∃ x, x ∈ l ∧ ∃ as, Reads h u (toD x) as then e.choose else .tup []
theorem kOf_eq {h : Heap} {l : List PV} {u : Value} {x : PV} {as : List Addr} (sd : l.all sdat = true) (hx : x ∈ l) (r : Reads h u (toD x) as) : kOf h l u = x := by
  unfold kOf
  have e : ∃ x, x ∈ l ∧ ∃ as, Reads h u (toD x) as := ⟨x, hx, as, r⟩
  rw [dif_pos e]
  obtain ⟨m, as', r'⟩ := e.choose_spec
  exact toD_inj _ _ (List.all_eq_true.mp sd _ m) (List.all_eq_true.mp sd _ hx) (Reads.unique r' _ _ r).1
theorem kOf_map {h : Heap} {l : List PV} (sd : l.all sdat = true) : ∀ (us : List Value) (m : List PV) (as : List Addr), (∀ x ∈ m, x ∈ l) → ReadsAll h us (toDs m) as → us.map (kOf h l) = m
  | [], [], _, _, _ => rfl
  | [], x :: m, _, _, r => by cases r
  | u :: us, [], _, _, r => by cases r
  | u :: us, x :: m, as, hm, r => by
    cases r with
    | cons r1 r2 => rw [List.map_cons, kOf_eq sd (hm x (List.mem_cons_self ..)) r1, kOf_map sd us m _ (fun y hy => hm y (List.mem_cons_of_mem _ hy)) r2]
theorem reads_mem {h : Heap} : ∀ (us : List Value) (m : List PV) (as : List Addr), ReadsAll h us (toDs m) as → ∀ u ∈ us, ∃ x ∈ m, ∃ as, Reads h u (toD x) as
  | [], m, _, _, u, hu => absurd hu (by simp)
  | v :: us, [], _, r, u, hu => by cases r
  | v :: us, x :: m, as, r, u, hu => by
    cases r with
    | cons r1 r2 =>
      rcases List.mem_cons.mp hu with rfl | hu
      · exact ⟨x, List.mem_cons_self .., _, r1⟩
      · obtain ⟨y, hy, q⟩ := reads_mem us m _ r2 u hu
        exact ⟨y, List.mem_cons_of_mem _ hy, q⟩
def tyOf (k : Nat) : Value := if k = 0 then .type "int" else if k = 1 then .type "str" else .type "tuple"
theorem firsts_ok {M : Model} {h : Heap} {κ : Nat} (hκ : κ ≤ 2) : ∀ (us : List Value) (m : List PV) (as : List Addr), ReadsAll h us (toDs m) as → m.all sdat = true → (∀ x ∈ m, headK x = some κ) → ∃ fs, PySem.W.KatTups h us fs ∧ fs.length = us.length ∧ ∀ f ∈ fs, PySem.W.Looks M h (typeOf f) (tyOf κ)
  | [], m, as, r, sd, hk => ⟨[], PySem.W.KatTups.nil, rfl, fun f hf => absurd hf (by simp)⟩
  | u :: us, [], as, r, sd, hk => by cases r
  | u :: us, x :: m, as, r, sd, hk => by
    cases r with
    | cons r1 r2 =>
      simp only [List.all_cons, Bool.and_eq_true] at sd
      obtain ⟨fs, g1, g2, g3⟩ := firsts_ok (M := M) hκ us m _ r2 sd.2 fun y hy => hk y (List.mem_cons_of_mem _ hy)
      have hx := hk x (List.mem_cons_self ..)
      cases x <;> simp only [headK] at hx <;> try contradiction
      rename_i l
      cases l with
      | nil => cases hx
      | cons y ys =>
        injection hx with hx
        have sy : sdat y = true := by
          have := sd.1
          simp only [sdat, sdats, Bool.and_eq_true] at this
          exact this.1
        simp only [toD, toDs] at r1
        cases r1 with
        | @tuple a o vs n _ as h1 h2 h3 h4 =>
          generalize hv : vs.toList = vl at h4
          cases h4 with
          | @cons v vt _ _ _ _ q1 q2 =>
            have hv0 : vs[0]? = some v := by
              have : vs.toList[0]? = some v := by rw [hv]; rfl
              simpa using this
            refine ⟨v :: fs, PySem.W.KatTups.cons h1 h2 h3 hv0 g1, by simp [g2], fun f hf => ?_⟩
            rcases List.mem_cons.mp hf with rfl | hf
            · cases y <;> simp only [sdat] at sy <;> try contradiction
              · cases hx
                cases q1
                exact PySem.W.Looks.now
              · cases hx
                cases q1
                exact PySem.W.Looks.now
              · cases hx
                simp only [toD] at q1
                cases q1 with
                | @tuple b o' ws n' _ bs k1 k2 k3 k4 =>
                  exact (show PySem.W.Looks M h (typeOf (.ref b)) (.type "tuple") from k2 ▸ (PySem.W.Looks.ld k1).andThen .now)
            · exact g3 f hf
section
variable {X : Cx}
/-- sorted of such data: what the new list holds -/
def rSortD (X : Cx) (l : List PV) : List V → Hp → VK → Prop := fun vs H Q => ∃ (a : Addr) (ws : List V), vs = [V.ref a] ∧ SqL X.K H a ws ∧ DpAll X.K H ws (toDs l) ∧ (∀ x ∈ ws, ∃ b, x = V.ref b) ∧ (sortP l = some (sortL l)) ∧ l ≠ [] ∧ X.A.units + 60 < cLine ∧
  ∀ (zs : List V) (p : Addr), (∀ f : PV → V → Prop, Paired f l ws → Paired f (sortL l) zs) → zs.length = ws.length → H p = none → Q (.ref p) (upd H p (.lst zs))
mutual
theorem lev_kin : ∀ (n : Nat) (x y : PV), lev n x = true → lev n y = true → kinA x y = true ∧ rank x = rank y
  | 0, x, y, hx, hy => by
    cases x <;> simp only [lev] at hx <;> try contradiction
    cases y <;> simp only [lev] at hy <;> try contradiction
    exact ⟨rfl, rfl⟩
  | n + 1, x, y, hx, hy => by
    cases x <;> simp only [lev] at hx <;> try contradiction
    cases y <;> simp only [lev] at hy <;> try contradiction
    exact ⟨levs_kin n _ _ hx hy, rfl⟩
theorem levs_kin : ∀ (n : Nat) (xs ys : List PV), levs n xs = true → levs n ys = true → kinAs xs ys = true
  | n, [], ys, hx, hy => by simp [kinAs]
  | n, x :: xs, [], hx, hy => by simp [kinAs]
  | n, x :: xs, y :: ys, hx, hy => by
    simp only [levs, Bool.and_eq_true] at hx hy
    simp only [kinAs, Bool.and_eq_true, Bool.or_eq_true]
    exact ⟨.inr (lev_kin n x y hx.1 hy.1).1, levs_kin n xs ys hx.2 hy.2⟩
end
theorem fits_top : ∀ (p : List Nat) (xs ys : List PV), fits p xs = true → fits p ys = true → topOks xs ys = true
  | [], xs, ys, hx, hy => by
    cases xs <;> simp only [fits] at hx <;> try contradiction
    simp [topOks]
  | p :: ps, xs, ys, hx, hy => by
    cases xs <;> simp only [fits] at hx <;> try contradiction
    cases ys <;> simp only [fits] at hy <;> try contradiction
    rw [Bool.and_eq_true] at hx hy
    simp only [topOks]
    split
    · exact fits_top ps _ _ hx.2 hy.2
    · exact (lev_kin p _ _ hx.1 hy.1).1
theorem quick_ok {l : List PV} (h : quick l = true) : ∀ x ∈ l, ∀ y ∈ l, topOk x y = true ∧ headK x = headK y ∧ (headK x).isSome = true := by
  unfold quick at h
  rw [Bool.and_eq_true, List.all_eq_true] at h
  obtain ⟨h1, h2⟩ := h
  generalize patOf l = p at *
  intro x mx y my
  have hx := h2 x mx
  have hy := h2 y my
  cases x <;> simp only [fitT] at hx <;> try contradiction
  cases y <;> simp only [fitT] at hy <;> try contradiction
  rename_i xs ys
  refine ⟨fits_top p xs ys hx hy, ?_⟩
  cases p with
  | nil => simp at h1
  | cons p ps =>
    cases xs <;> simp only [fits] at hx <;> try contradiction
    cases ys <;> simp only [fits] at hy <;> try contradiction
    rw [Bool.and_eq_true] at hx hy
    exact ⟨congrArg some (lev_kin p _ _ hx.1 hy.1).2, rfl⟩
theorem sortP_inv {l m : List PV} (h : sortP l = some m) : m = sortL l ∧ l.all sdat = true ∧ l.all (shp 20) = true ∧ ∀ x ∈ l, ∀ y ∈ l, topOk x y = true ∧ headK x = headK y ∧ (headK x).isSome = true := by
  unfold sortP at h
  split at h <;> try contradiction
  rename_i c
  cases h
  simp only [Bool.and_eq_true, Bool.or_eq_true] at c
  obtain ⟨⟨c1, c2⟩, c3⟩ := c
  refine ⟨rfl, c1, c2, ?_⟩
  rcases c3 with c3 | c3
  · exact quick_ok c3
  · simp only [Bool.and_eq_true, List.all_eq_true, decide_eq_true_eq] at c3
    intro x hx y hy
    have := c3 x hx y hy
    exact ⟨this.1.1, this.1.2, this.2⟩
theorem paired_idx {α β : Type} {f : α → β → Prop} : ∀ {l : List α} {m : List β}, Paired f l m → l.length = m.length ∧ ∀ (i : Nat) (x : α) (y : β), l[i]? = some x → m[i]? = some y → f x y
  | _, _, .nil => ⟨rfl, fun i x y h => by simp at h⟩
  | _, _, .cons a b => by
    obtain ⟨h1, h2⟩ := paired_idx b
    refine ⟨by simp [h1], fun i x y hx hy => ?_⟩
    cases i with
    | zero => simp at hx hy; subst hx hy; exact a
    | succ i => exact h2 i x y (by simpa using hx) (by simpa using hy)
theorem paired_of {α β γ : Type} {f : α → β → Prop} (g : γ → α) (k : γ → β) : ∀ (l : List γ), (∀ u ∈ l, f (g u) (k u)) → Paired f (l.map g) (l.map k)
  | [], _ => .nil
  | u :: l, h => .cons (h u (List.mem_cons_self ..)) (paired_of g k l fun v hv => h v (List.mem_cons_of_mem _ hv))
theorem cr_sortD (l : List PV) : CallR X (.builtin "sorted") (rSortD X l) := by
  intro pins s σ H vs us Q I r ⟨a, ws, ev, hs, hd, href, hso, hne, hu, q⟩
  subst ev
  obtain ⟨its, rv, hl, hz⟩ := I.list hs
  obtain ⟨u, rfl, ru⟩ := vals1 r
  obtain rfl : u = Value.ref a := ru
  obtain ⟨-, sd, sh, sc⟩ := sortP_inv hso
  obtain ⟨as, ra⟩ := Dp.readsAll I (toDs l) ws its hd rv
  obtain ⟨e1, e2⟩ := refs_back rv href
  have hk : its.map (kOf s.heap l) = l := kOf_map sd its l as (fun _ h => h) ra
  have hlen : its.length = l.length := by rw [← hk, List.length_map]
  refine SrtO.sorted_ord (ltp_swo (kOf s.heap l)) hl.isList (by rw [← rv.length]; exact hz) (fun h2 h₁ a₁ ha₁ kk => ?_) fun out h1 h2 => ?_
  · intro h' keep
    have kp : ∀ b o, s.heap.get? b = some o → h'.get? b = some o := fun b o e => keep b o (kk b o e).1 (kk b o e).2
    have ra' : ReadsAll h' its (toDs l) as := ReadsAll.keeps kp ra
    obtain ⟨x0, l0, rfl⟩ : ∃ x l0, l = x :: l0 := by cases l with | nil => exact absurd rfl hne | cons x l0 => exact ⟨x, l0, rfl⟩
    obtain ⟨κ, hκ⟩ := Option.isSome_iff_exists.mp (sc x0 (List.mem_cons_self ..) x0 (List.mem_cons_self ..)).2.2
    have hκa : ∀ x ∈ x0 :: l0, headK x = some κ := fun x hx => by rw [(sc x hx x0 (List.mem_cons_self ..)).2.1]; exact hκ
    have hκ2 : κ ≤ 2 := by
      have sd0 := List.all_eq_true.mp sd x0 (List.mem_cons_self ..)
      cases x0 <;> simp only [headK] at hκ <;> try contradiction
      rename_i l
      cases l with
      | nil => cases hκ
      | cons y ys =>
        injection hκ with hκ
        simp only [sdat, sdats, Bool.and_eq_true] at sd0
        have rk : ∀ z : PV, sdat z = true → rank z ≤ 2 := by intro z hz; cases z <;> simp_all [sdat, rank]
        rw [← hκ]
        exact rk y sd0.1
    refine ⟨PyProof.Rows.tuples' (tyOf κ != Value.type "tuple"), fun Q E hq => ?_, fun p q hp hq => ?_⟩
    · obtain ⟨fs, g1, g2, g3⟩ := firsts_ok (M := model X.prog X.w) hκ2 its _ as ra' sd hκa
      refine PySem.W.kat_kind (s := { s with heap := h' }) g1 (by omega) g3 ?_ hq
      have : κ = 0 ∨ κ = 1 ∨ κ = 2 := by omega
      rcases this with rfl | rfl | rfl <;> rfl
    · obtain ⟨x, hx, as1, r1⟩ := reads_mem its _ as ra p.1 hp
      obtain ⟨y, hy, as2, r2⟩ := reads_mem its _ as ra q.1 hq
      show wpAny _ _ (PyProof.Rows.keyLt' _ p.1 q.1) (fun r s' => s' = _ ∧ r = ltp (kOf s.heap _ p.1) (kOf s.heap _ q.1)) _ _
      rw [kOf_eq sd hx r1, kOf_eq sd hy r2]
      have r1' := Reads.keeps kp r1
      have r2' := Reads.keeps kp r2
      have sx := List.all_eq_true.mp sd x hx
      have sy := List.all_eq_true.mp sd y hy
      have tx := List.all_eq_true.mp sh x hx
      have ty := List.all_eq_true.mp sh y hy
      have tc := (sc x hx y hy).1
      have kx := hκa x hx
      revert r1' r2' kx
      cases x <;> cases y <;> simp only [topOk] at tc <;> try contradiction
      rename_i xs ys
      intro r1' r2' kx
      simp only [toD] at r1' r2'
      have tx : xs.all (shp 19) = true := by simpa [shp] using tx
      have ty : ys.all (shp 19) = true := by simpa [shp] using ty
      simp only [sdat] at sx sy
      generalize p.1 = pv at r1'
      generalize q.1 = qv at r2'
      cases r1' with
      | @tuple b1 o1 vs1 n1 _ bs1 h11 h12 h13 h14 =>
        cases r2' with
        | @tuple b2 o2 vs2 n2 _ bs2 k11 k12 k13 k14 =>
          have l1 := (readsAll_get _ _ _ h14).1
          have l2 := (readsAll_get _ _ _ k14).1
          refine PySem.W.kat_lt h11 h13 k11 k13 (kat_data (n := 19) vs1.toList vs2.toList xs ys _ _ 0 h14 k14 (sdats_all sx) (sdats_all sy) tx ty tc (by show X.A.units + 1 + 1 + 19 < cLine; omega) (fun hb _ x r ex => ?_) ?_ ⟨rfl, rfl⟩)
          · subst ex
            injection kx with kx
            intro e2
            rw [e2] at kx
            subst kx
            exact absurd hb (by decide)
          · have z1 : vs1.size = xs.length := by simpa using l1
            have z2 : vs2.size = ys.length := by simpa using l2
            rw [z1, z2]
  · have h3 : ∀ u ∈ out, ∃ a, u = Value.ref a := fun u hu => e2 u (h2.perm.mem_iff.mp hu)
    have hsl : out.map (kOf s.heap l) = sortL l := by
      refine SrtO.stb_uniq ltp_swoP (SrtO.srtd_map h1) (sortL_ok l).1 ?_
      have := SrtO.Stb.map ltp_swoP (kOf s.heap l) h2
      rw [hk] at this
      refine this.trans ?_
      have q := (sortL_ok l).2
      exact ⟨q.perm.symm, fun x => (q.cls x).symm⟩
    have hz2 : (out.map backV).length ≤ sizeLine := by
      rw [List.length_map, h2.len, ← rv.length]
      exact hz
    have ok : ObjOk X.prog X.w (upd H (s.heap.objs.size + 1) (.lst (out.map backV))) (sortedAll s.heap its out.toArray) (s.heap.objs.size + 1) (.lst (out.map backV)) := by
      obtain ⟨n, e⟩ : ∃ n, (sortedAll s.heap its out.toArray).get? (s.heap.objs.size + 1) = some (seqObj "list" out.toArray n) := sortedAll_at s.heap its out.toArray
      exact ⟨hz2, out, n, vals_back h3, e⟩
    refine ⟨.ref (s.heap.objs.size + 1), _, I.laid (t' := s.toks) (fun b o e => sortedAll_old e) (Nat.le_succ _) ok, rfl, q (out.map backV) _ (fun f hf => ?_) (by rw [List.length_map, h2.len, ← rv.length]) (I.hok.fresh (Nat.le_succ _))⟩
    rw [← hsl]
    refine paired_of _ _ out fun u hu => ?_
    have hu' := h2.perm.mem_iff.mp hu
    obtain ⟨i, hi⟩ := List.getElem?_of_mem hu'
    refine (paired_idx hf).2 i _ _ ?_ ?_
    · have z := congrArg (fun m => m[i]?) hk
      simp only [List.getElem?_map, hi] at z
      exact z.symm
    · rw [e1, List.getElem?_map, hi]; rfl
end
section
variable {X : Cx} {B : Addr → Prop} {ρ : List Addr} {h : Hh} {H : Hp}
theorem op_ltD (hu : X.A.units + 64 < cLine) : OpR X (compareOp .Lt) (fun v w H Q => ∃ x y, sdat x = true ∧ sdat y = true ∧ shp 20 x = true ∧ shp 20 y = true ∧ kinA x y = true ∧ Dp X.K H v (toD x) ∧ Dp X.K H w (toD y) ∧ Q (.bl (ltp x y)) H) := by
  intro pins s σ H x' y' v u Q I rx ry ⟨x, y, sx, sy, hx, hy, hc, d1, d2, q⟩
  obtain ⟨as, r1⟩ := Dp.reads I _ _ v d1 rx
  obtain ⟨bs, r2⟩ := Dp.reads I _ _ u d2 ry
  exact rc_lt 20 x y X.A v u as bs r1 r2 sx sy hx hy hc (by omega) _ _ _ _ ⟨.bl _, H, I, rfl, q⟩
theorem cmp_ok (o : Cmp) (hr : ∃ k, Room k X.A) : ∃ r : R2, OpR X (compareOp (cmpA o)) r ∧ ∀ {B : Addr → Prop} {ρ : List Addr} {h : Hh} {H : Hp} {p q : PV} {z : Bool} {v w : V} {Q : VK}, SR (kf X) B ρ h H → Rel (kf X) B ρ H p v → Rel (kf X) B ρ H q w → cmpV h o p q = some z →
    Q (.bl z) H → r v w H Q := by
  by_cases ho : o = .lt
  · subst ho
    obtain ⟨k, hr⟩ := hr
    refine ⟨_, (op_lt (X := X)).or (op_ltD hr.units), fun {B ρ h H p q z v w Q} s rp rq e ot => ?_⟩
    simp only [cmpV] at e
    split at e
    · cases e
      rw [rp.int_inv, rq.int_inv]
      exact .inl ⟨_, _, rfl, rfl, ot⟩
    · split at e <;> try contradiction
      rename_i cc
      cases e
      simp only [Bool.and_eq_true] at cc
      obtain ⟨⟨⟨⟨c1, c2⟩, c3⟩, c4⟩, c5⟩ := cc
      exact .inr ⟨p, q, c1, c2, c3, c4, c5, dp_of 20 p v c3 rp, dp_of 20 q w c4 rq, ot⟩
  · exact cmp_ok0 o ho hr
end
end Y

/-! K3c: subscripts, slices, built-ins, methods by values -/
namespace YB
open PySem
open PySem.Sem (wp)
theorem meets_bool_tuple (l : Addr) (items : Array Value) (hfit : (items.size : Int) < 2 ^ 63) :
    Meets (Builtin.«bool.__new__» ⟨[.type "bool", .ref l], []⟩) (fun _ R s => PyProof.Rows.IsTup s.heap l items ∧ R (.ok (.ret (.bool (!items.isEmpty)))) { s with toks := s.toks + 1 + 1 }) :=
  Meets.of_wp fun prog w A R s hs => by
    obtain ⟨hl, hs⟩ := hs
    obtain ⟨hp, g, d, tk, os⟩ := s
    have f1 := F.conv_sub_bool
    repeat (any_goals (first | assumption | (with_reducible refine PyProof.Rows.truthy_tuple hl hfit ?_) | wp_step))
    all_goals first | exact ⟨_, rfl, hs⟩ | exact hs | skip
theorem call_bool_tuple {prog : Program} {w : World} {A : Around} {E : Value → Shared → Prop} {s : Shared} {l : Addr} {items : Array Value} {Q : Value → Shared → Prop} (hfit : (items.size : Int) < 2 ^ 63) (hl : PyProof.Rows.IsTup s.heap l items)
    (h : Q (.bool (!items.isEmpty)) { s with toks := s.toks + 1 + 1 }) : wpAny (model prog w) A (call (.type "bool") [.ref l]) Q E s :=
  call_bool_1 (meets_bool_tuple l items hfit) ⟨hl, rfl, h⟩
end YB
namespace Y
open PySem PySem.Spec PyProof.Rows L2

section
variable {X : Cx} {B : Addr → Prop} {ρ : List Addr} {h : Hh} {H : Hp}
theorem call_boolT : CallR X (.type "bool") (fun xs H Q => ∃ (a : Addr) (zs : List V), xs = [.ref a] ∧ SqT X.K H a zs ∧ Q (.bl (!zs.isEmpty)) H) := by
  intro pins s σ H xs us Q I r h
  obtain ⟨a, zs, rfl, hq, q⟩ := h
  obtain rfl := Vals.ref1 r
  obtain ⟨its, rv, pl, hz⟩ := I.tuple hq
  have hl := line63
  have hlen := rv.length
  refine YB.call_bool_tuple (by simp only [List.size_toArray]; omega) pl ?_
  exact ⟨.bl (!zs.isEmpty), H, I.tok _, by rw [isEmpty_of rv]; rfl, q⟩
def rIxDc : R2 := fun x y H Q => ∃ a v, x = .ref a ∧ DGet H a y (some v) ∧ Q v H
theorem ix_dc (hu : X.A.units + 1 < cLine) : IxR X rIxDc := by
  intro value slice pins s σ H x y v u Q I rx ry h hs
  obtain ⟨a, w, rfl, g, q⟩ := h
  obtain rfl : v = Value.ref a := rx
  exact tail_any (dict_typeIs I g) PySem.F.slot_dict_getitem.lookup (d_getItem hu I g ry fun w' s3 I3 rw' => ⟨w, H, I3, rw', q⟩) hs
theorem atI_rel {l : List PV} {vs : List V} {i : Int} {z : PV} (r : Rels (kf X) B ρ H l vs) (e : atI l i = some z) : ∃ v, atI vs i = some v ∧ Rel (kf X) B ρ H z v := by
  unfold atI at e ⊢
  rw [r.length] at e
  cases hj : ixN vs.length i with
  | none => rw [hj] at e; cases e
  | some j =>
    rw [hj] at e
    exact r.get e
theorem ix_ok (hr : ∃ k, Room k X.A) : ∃ r : R2, IxR X r ∧ ∀ {B : Addr → Prop} {ρ : List Addr} {h : Hh} {H : Hp} {p q z : PV} {v w : V} {Q : VK}, SR (kf X) B ρ h H → Rel (kf X) B ρ H p v → Rel (kf X) B ρ H q w → ixV h p q = some z →
    (∀ u, Rel (kf X) B ρ H z u → Q u H) → r v w H Q := by
  obtain ⟨k, hr⟩ := hr
  have hu1 : X.A.units + 1 < cLine := by have := hr.units; omega
  refine ⟨_, ((ix_list (X := X)).or (ix_tup (X := X))).or ((ix_str (X := X)).or (ix_dc hu1)), fun {B ρ h H p q z v w Q} s rp rq e ot => ?_⟩
  unfold ixV at e
  split at e
  · rename_i ks ws hd
    split at e <;> try contradiction
    rename_i hk
    obtain ⟨a, kvs, rfl, f, zz, rfl, rs⟩ := dct_at s rp hd
    obtain ⟨u, e1, r1⟩ := (dget_V hk rs).1 z e
    refine .inr (.inr ⟨a, u, rfl, ?_, ot u r1⟩)
    rw [key_V hk rq, ← e1]
    exact DGet.k f
  · split at e
    · rename_i l i hl
      obtain ⟨a, vs, rfl, hq, zz, rs⟩ := seq_at s rp hl
      obtain ⟨u, e1, r1⟩ := atI_rel rs e
      rw [rq.int_inv]
      rcases hq with hq | hq
      · exact .inl (.inl ⟨a, vs, i, u, rfl, rfl, hq, e1, ot u r1⟩)
      · exact .inl (.inr ⟨a, vs, i, u, rfl, rfl, hq, e1, ot u r1⟩)
    · split at e <;> try contradiction
      split at e <;> try contradiction
      rename_i hz
      rw [rp.str_inv, rq.int_inv]
      obtain ⟨c, e1, e2⟩ := Option.map_eq_some_iff.mp e
      subst e2
      exact .inr (.inl ⟨_, _, c, rfl, rfl, by rw [SZ_eq]; exact hz, e1, ot _ Rel.str_mk⟩)

theorem cut_rel {l : List PV} {vs : List V} {lo hi : Option Int} (r : Rels (kf X) B ρ H l vs) : Rels (kf X) B ρ H (cut l lo hi) (cutV vs lo hi) := by
  unfold cut cutV
  rw [r.length]
  exact (r.drop _).take _
theorem cut_whole {α} {xs : List α} {lo hi : Option Int} (h : HT.sIx xs.length 0 lo = 0 ∧ HT.sIx xs.length xs.length hi = xs.length) : cut xs lo hi = xs := by
  unfold cut
  rw [h.1, h.2]
  simp
theorem sl_ok : ∃ r : V → Option Int → Option Int → Hp → VK → Prop, SlR X r ∧ ∀ {B : Addr → Prop} {ρ : List Addr} {h : Hh} {H : Hp} {p z : PV} {lo hi : Option Int} {v : V} {Q : VK}, SR (kf X) B ρ h H → Rel (kf X) B ρ H p v → slV h p lo hi = some z →
    Out X B ρ h H z Q → r v lo hi H Q := by
  refine ⟨_, ((sl_list (X := X)).or (sl_tupN (X := X))).or (sl_str (X := X)), fun {B ρ h H p z lo hi v Q} s rp e ot => ?_⟩
  unfold slV at e
  split at e
  · rename_i l
    cases e
    obtain ⟨a, vs, rfl, f, zz, rs⟩ := rp.tup_inv
    refine .inl <| .inr ⟨a, vs, rfl, tup_sq f, fun hw => ?_, fun hw => ot.tup s (Nat.le_trans (cutV_length vs lo hi) zz) (cut_rel rs)⟩
    refine ot.here s ?_ rfl
    rw [cut_whole (by rw [rs.length]; exact hw)]
    exact rp
  · rename_i l
    cases e
    obtain ⟨a, vs, rfl, f, zz, rs⟩ := rp.lst_inv
    exact .inl <| .inl ⟨a, vs, rfl, SqL.of f.1, ot.lst s (Nat.le_trans (cutV_length vs lo hi) zz) (cut_rel rs)⟩
  · obtain ⟨a, ra, rfl⟩ := rp.ref_inv
    split at e <;> try contradiction
    · rename_i hx
      cases e
      obtain ⟨a', ra', vs, f, zz, rs⟩ := s.at hx
      rw [ra] at ra'; cases ra'
      exact .inl <| .inl ⟨a, vs, rfl, SqL.of f, ot.lst s (Nat.le_trans (cutV_length vs lo hi) zz) (cut_rel rs)⟩
  · cases e
    obtain ⟨a, vs, rfl, f, zz, rs⟩ := rp.scr_inv
    exact .inl <| .inl ⟨a, vs, rfl, scr_sq f, ot.lst s (Nat.le_trans (cutV_length vs lo hi) zz) (cut_rel rs)⟩
  · split at e <;> try contradiction
    rename_i hz
    cases e
    rw [rp.str_inv]
    exact .inr ⟨_, rfl, by rw [SZ_eq]; exact hz, ot.here s Rel.str_mk rfl⟩
  · contradiction

theorem bls_V : ∀ {l : List PV} {bs : List Bool} {vs : List V}, blsOf l = some bs → Rels (kf X) B ρ H l vs → vs = bs.map V.bl
  | [], bs, vs, e, r => by simp only [blsOf] at e; cases e; exact r.nil_inv
  | x :: xs, bs, vs, e, r => by
    obtain ⟨w, ws, rfl, a, b⟩ := r.cons_inv
    cases x <;> simp only [blsOf] at e <;> try contradiction
    obtain ⟨bs', e1, e2⟩ := Option.map_eq_some_iff.mp e
    subst e2
    rw [a.bl_inv, bls_V e1 b]
    rfl
theorem ints_V : ∀ {l : List PV} {bs : List Int} {vs : List V}, intsOf l = some bs → Rels (kf X) B ρ H l vs → vs = bs.map V.int
  | [], bs, vs, e, r => by simp only [intsOf] at e; cases e; exact r.nil_inv
  | x :: xs, bs, vs, e, r => by
    obtain ⟨w, ws, rfl, a, b⟩ := r.cons_inv
    cases x <;> simp only [intsOf] at e <;> try contradiction
    obtain ⟨bs', e1, e2⟩ := Option.map_eq_some_iff.mp e
    subst e2
    rw [a.int_inv, ints_V e1 b]
    rfl
theorem strs_V : ∀ {l : List PV} {bs : List Str} {vs : List V}, strsOf l = some bs → Rels (kf X) B ρ H l vs → vs = bs.map V.str
  | [], bs, vs, e, r => by simp only [strsOf] at e; cases e; exact r.nil_inv
  | x :: xs, bs, vs, e, r => by
    obtain ⟨w, ws, rfl, a, b⟩ := r.cons_inv
    cases x <;> simp only [strsOf] at e <;> try contradiction
    obtain ⟨bs', e1, e2⟩ := Option.map_eq_some_iff.mp e
    subst e2
    rw [a.str_inv, strs_V e1 b]
    rfl
theorem Rels.one_inv {x : PV} {vs : List V} (r : Rels (kf X) B ρ H [x] vs) : ∃ v, vs = [v] ∧ Rel (kf X) B ρ H x v := by
  obtain ⟨w, ws, rfl, a, b⟩ := r.cons_inv
  rw [b.nil_inv]
  exact ⟨w, rfl, a⟩
theorem Rels.two_inv {x y : PV} {vs : List V} (r : Rels (kf X) B ρ H [x, y] vs) : ∃ v w, vs = [v, w] ∧ Rel (kf X) B ρ H x v ∧ Rel (kf X) B ρ H y w := by
  obtain ⟨w, ws, rfl, a, b⟩ := r.cons_inv
  obtain ⟨u, rfl, c⟩ := b.one_inv
  exact ⟨w, u, rfl, a, c⟩
theorem seqL_at {x : PV} {l : List PV} {v : V} (s : SR (kf X) B ρ h H) (r : Rel (kf X) B ρ H x v) (e : seqOf h x = some l) (hn : ∀ l', x ≠ .tup l') : ∃ a vs, v = .ref a ∧ SqL X.K H a vs ∧ vs.length ≤ SZ ∧ Rels (kf X) B ρ H l vs := by
  cases x <;> simp only [seqOf] at e <;> try contradiction
  · exact absurd rfl (hn _)
  · cases e
    obtain ⟨a, vs, q, f, z, rs⟩ := r.lst_inv
    exact ⟨a, vs, q, (SqL.of f.1), z, rs⟩
  · rename_i n
    obtain ⟨a, ra, rfl⟩ := r.ref_inv
    split at e <;> try contradiction
    · cases e
      rename_i xs hx
      obtain ⟨a', ra', vs, q, z, rs⟩ := s.at hx
      rw [ra] at ra'; cases ra'
      exact ⟨a, vs, rfl, (SqL.of q), z, rs⟩
  · cases e
    obtain ⟨a, vs, q, f, z, rs⟩ := r.scr_inv
    exact ⟨a, vs, q, scr_sq f, z, rs⟩
theorem call_bool : CallR X (.type "bool") (fun xs H Q => (∃ i, xs = [.int i] ∧ Q (.bl (i != 0)) H) ∨ (∃ k, xs = [.bl k] ∧ Q (.bl k) H)) := call_bool1

/-- name, kind -/
def biN : Bi → Str
  | .len => "len" | .tuple => "tuple" | .list => "list" | .int => "int" | .bool => "bool" | .abs => "abs" | .sorted => "sorted" | .any => "any" | .all => "all" | .sum => "sum" | .min2 => "min" | .max2 => "max" | .str => "str" | .lists => "list"
def biV : Bi → Value
  | .len => .builtin "len" | .tuple => .type "tuple" | .list => .type "list" | .int => .type "int" | .bool => .type "bool" | .abs => .builtin "abs" | .sorted => .builtin "sorted" | .any => .builtin "any" | .all => .builtin "all" | .sum => .builtin "sum"
  | .min2 => .builtin "min" | .max2 => .builtin "max" | .str => .type "str" | .lists => .type "list"
theorem bi_boot (b : Bi) : bootBuiltins (biN b) = some (biV b) ∧ biN b ≠ "__name__" ∧ (biN b == ("__debug__" : Str)) = false := by
  cases b <;> exact ⟨by decide +kernel, by decide +kernel, by decide +kernel⟩
theorem paired_rels : ∀ {l : List PV} {vs : List V}, Rels (kf X) B ρ H l vs → Paired (fun p v => Rel (kf X) B ρ H p v) l vs
  | [], vs, r => by rw [r.nil_inv]; exact .nil
  | x :: l, vs, r => by
    obtain ⟨w, ws, rfl, a, b⟩ := r.cons_inv
    exact .cons a (paired_rels b)
theorem rels_paired : ∀ {l : List PV} {vs : List V}, Paired (fun p v => Rel (kf X) B ρ H p v) l vs → Rels (kf X) B ρ H l vs
  | _, _, .nil => Rels.nil
  | _, _, .cons a b => Rels.cons a (rels_paired b)
theorem refs_of_tups : ∀ {l : List PV} {vs : List V}, (∀ x ∈ l, ∃ m, x = .tup m) → Rels (kf X) B ρ H l vs → ∀ v ∈ vs, ∃ b, v = V.ref b
  | [], vs, _, r, v, hv => by rw [r.nil_inv] at hv; cases hv
  | x :: l, vs, h, r, v, hv => by
    obtain ⟨w, ws, rfl, a, b⟩ := r.cons_inv
    rcases List.mem_cons.mp hv with rfl | hv
    · obtain ⟨m, rfl⟩ := h x (List.mem_cons_self ..)
      obtain ⟨c, _, e, _⟩ := a.tup_inv
      exact ⟨c, e⟩
    · exact refs_of_tups (fun y hy => h y (List.mem_cons_of_mem _ hy)) b v hv
theorem call_sorted : CallR X (.builtin "sorted") (fun vs H Q => rSortedI X.K vs H Q ∨ ∃ l, rSortD X l vs H Q) :=
  fun pins s σ H vs us Q I r h => h.elim (fun h => cr_sortedI pins s σ H vs us Q I r h) fun ⟨l, h⟩ => cr_sortD l pins s σ H vs us Q I r h
theorem bi_ok (b : Bi) (hc : X.calm = true) (hu : X.A.units + 60 < cLine) : ∃ r : List V → Hp → VK → Prop, CallR X (biV b) r ∧ ∀ {B : Addr → Prop} {ρ : List Addr} {h : Hh} {H : Hp} {ps : List PV} {z : PV} {vs : List V} {Q : VK}, SR (kf X) B ρ h H → Rels (kf X) B ρ H ps vs → bi1 h b ps = some z →
    Out X B ρ h H z Q → r vs H Q := by
  cases b with
  | len =>
    refine ⟨_, (call_len (X := X)).or (call_lenD (X := X)), fun {B ρ h H ps z vs Q} s rs e ot => ?_⟩
    unfold bi1 at e
    split at e <;> try contradiction
    rename_i x heq
    obtain ⟨v, rfl, r⟩ := rs.one_inv
    obtain ⟨n, e1, e2⟩ := Option.map_eq_some_iff.mp e
    subst e2
    unfold lenV at e1
    split at e1
    · split at e1 <;> try contradiction
      rename_i hz
      cases e1
      rw [r.str_inv]
      exact .inl ⟨_, _, rfl, ⟨by rw [SZ_eq]; exact hz, rfl⟩, ot.here s Rel.int_mk rfl⟩
    · split at e1
      · rename_i ks ws hd
        cases e1
        obtain ⟨a, kvs, rfl, f, zz, rfl, rs'⟩ := dct_at s r hd
        refine .inr ⟨a, kvs, rfl, f, ?_⟩
        have := ot.here s (Rel.int_mk (X := X)) rfl
        rwa [List.length_map] at this
      · obtain ⟨l, e3, e4⟩ := Option.map_eq_some_iff.mp e1
        subst e4
        obtain ⟨a, ws, rfl, hq, zz, rs'⟩ := seq_at s r e3
        refine .inl ⟨_, ws.length, rfl, ?_, ?_⟩
        · rcases hq with hq | hq
          · exact .inl ⟨ws, hq, rfl⟩
          · exact .inr ⟨ws, hq, rfl⟩
        · rw [← rs'.length]
          exact ot.here s Rel.int_mk rfl
  | tuple =>
    refine ⟨_, call_tupleN (X := X), fun {B ρ h H ps z vs Q} s rs e ot => ?_⟩
    unfold bi1 at e
    split at e <;> try contradiction
    rename_i x heq
    obtain ⟨v, rfl, r⟩ := rs.one_inv
    obtain ⟨l, e1, e2⟩ := Option.map_eq_some_iff.mp e
    subst e2
    by_cases ht : ∃ l', x = .tup l'
    · obtain ⟨l', rfl⟩ := ht
      simp only [seqOf] at e1
      cases e1
      obtain ⟨a, ws, rfl, f, z1, rs1⟩ := id r.tup_inv
      exact ⟨a, ws, rfl, .inr ⟨tup_sq f, ot.here s r rfl⟩⟩
    · obtain ⟨a, ws, rfl, hq, zz, rs'⟩ := seqL_at s r e1 (fun l' q => ht ⟨l', q⟩)
      exact ⟨a, ws, rfl, .inl ⟨hq, ot.tup s zz rs'⟩⟩
  | list =>
    refine ⟨_, call_list_of (X := X), fun {B ρ h H ps z vs Q} s rs e ot => ?_⟩
    unfold bi1 at e
    split at e <;> try contradiction
    rename_i x heq
    obtain ⟨v, rfl, r⟩ := rs.one_inv
    obtain ⟨l, e1, e2⟩ := Option.map_eq_some_iff.mp e
    subst e2
    obtain ⟨a, ws, rfl, hq, zz, rs'⟩ := seq_at s r e1
    exact ⟨a, ws, rfl, hq, ot.lst s zz rs'⟩
  | lists =>
    refine ⟨_, call_list_txt (X := X) hc, fun {B ρ h H ps z vs Q} s rs e ot => ?_⟩
    unfold bi1 at e
    split at e <;> try contradiction
    rename_i x heq
    obtain ⟨v, rfl, r⟩ := rs.one_inv
    obtain ⟨l, e1, e2⟩ := Option.map_eq_some_iff.mp e
    subst e2
    cases x <;> simp only [txtL] at e1 <;> try contradiction
    rename_i z
    split at e1 <;> try contradiction
    rename_i hz
    cases e1
    rw [r.str_inv]
    refine ⟨z, rfl, by rw [SZ_eq]; exact hz, ot.lst s (by simpa [sgV] using hz) ?_⟩
    have go : ∀ xs : List Nat, Rels (kf X) B ρ H (xs.map fun c => PV.str ⟨#[c]⟩) (xs.map fun c => V.str ⟨#[c]⟩) := by
      intro xs
      induction xs with
      | nil => exact Rels.nil
      | cons x xs ih => exact Rels.cons Rel.str_mk ih
    exact go _
  | int =>
    refine ⟨_, call_int1 (X := X), fun {B ρ h H ps z vs Q} s rs e ot => ?_⟩
    unfold bi1 at e
    split at e <;> try contradiction
    · cases e
      obtain ⟨v, rfl, r⟩ := rs.one_inv
      rw [r.int_inv]
      exact .inl ⟨_, rfl, ot.here s Rel.int_mk rfl⟩
    · cases e
      obtain ⟨v, rfl, r⟩ := rs.one_inv
      rw [r.bl_inv]
      exact .inr ⟨_, rfl, ot.here s Rel.int_mk rfl⟩
  | bool =>
    refine ⟨_, (call_bool1 (X := X)).or ((call_boolL (X := X)).or (call_boolT (X := X))), fun {B ρ h H ps z vs Q} s rs e ot => ?_⟩
    unfold bi1 at e
    split at e <;> try contradiction
    rename_i x heq
    obtain ⟨v, rfl, r⟩ := rs.one_inv
    obtain ⟨bb, e1, e2⟩ := Option.map_eq_some_iff.mp e
    subst e2
    unfold boolV at e1
    split at e1
    · cases e1; rw [r.int_inv]; exact .inl (.inl ⟨_, rfl, ot.here s Rel.bl_mk rfl⟩)
    · cases e1; rw [r.bl_inv]; exact .inl (.inr ⟨_, rfl, ot.here s Rel.bl_mk rfl⟩)
    · rename_i x hn1 hn2
      obtain ⟨l, e3, e4⟩ := Option.map_eq_some_iff.mp e1
      subst e4
      obtain ⟨a, ws, rfl, hq, zz, rs'⟩ := seq_at s r e3
      have hl : (!l.isEmpty) = !ws.isEmpty := by
        have := rs'.length
        cases l <;> cases ws <;> simp_all
      have o := ot.here s (Rel.bl_mk (X := X)) rfl
      rw [hl] at o
      rcases hq with hq | hq
      · exact .inr (.inl ⟨a, ws, rfl, hq, o⟩)
      · exact .inr (.inr ⟨a, ws, rfl, hq, o⟩)
  | abs =>
    refine ⟨_, call_abs (X := X), fun {B ρ h H ps z vs Q} s rs e ot => ?_⟩
    unfold bi1 at e
    split at e <;> try contradiction
    cases e
    obtain ⟨v, rfl, r⟩ := rs.one_inv
    rw [r.int_inv]
    exact ⟨_, rfl, ot.here s Rel.int_mk rfl⟩
  | sorted =>
    refine ⟨_, call_sorted, fun {B ρ h H ps z vs Q} s rs e ot => ?_⟩
    unfold bi1 at e
    split at e <;> try contradiction
    obtain ⟨v, rfl, r⟩ := rs.one_inv
    obtain ⟨l, e3, e4⟩ := Option.bind_eq_some_iff.mp e
    obtain ⟨a, ws, rfl, hq, zz, rs'⟩ := lst_at s r e3
    cases e5 : intsOf l with
    | some ns =>
      rw [e5] at e4
      cases e4
      have hw := ints_V e5 rs'
      subst hw
      refine .inl ⟨a, ns, rfl, SqL.of hq, fun ns' p hp hs hf => ?_⟩
      rw [PySem.W.eq_sortI hp hs]
      have rl : ∀ ns : List Int, Rels (kf X) B ρ H (ns.map PV.int) (ns.map V.int) := by
        intro ns
        induction ns with
        | nil => exact Rels.nil
        | cons z ns ih => exact Rels.cons Rel.int_mk ih
      exact ot.lst s (by rw [List.length_map, (PySem.W.sortI_perm ns).length_eq]; rw [List.length_map] at zz; exact zz) (rl _) p hf
    | none =>
      rw [e5] at e4
      obtain ⟨m, e6, e7⟩ := Option.map_eq_some_iff.mp e4
      subst e7
      obtain ⟨em, sd, sh, sc⟩ := sortP_inv e6
      subst em
      have hne : l ≠ [] := by rintro rfl; cases e5
      refine .inr ⟨l, a, ws, rfl, SqL.of hq, dps_of 20 l ws sh rs', refs_of_tups (fun x hx => ?_) rs', e6, hne, hu, fun zs p hf hl hp => ?_⟩
      · have := (sc x hx x hx).1
        cases x <;> simp only [topOk] at this <;> first | contradiction | exact ⟨_, rfl⟩
      · exact ot.lst s (by rw [hl]; exact zz) (rels_paired (hf _ (paired_rels rs'))) p hp
  | any =>
    refine ⟨_, cr_any hc, fun {B ρ h H ps z vs Q} s rs e ot => ?_⟩
    unfold bi1 at e
    split at e <;> try contradiction
    obtain ⟨v, rfl, r⟩ := rs.one_inv
    obtain ⟨bs, e1, e2⟩ := Option.map_eq_some_iff.mp e
    subst e2
    obtain ⟨l, e3, e4⟩ := Option.bind_eq_some_iff.mp e1
    obtain ⟨a, ws, rfl, f, zz, rs'⟩ := lst_at s r e3
    rw [bls_V e4 rs'] at f
    exact ⟨a, bs, rfl, SqL.of f, ot.here s Rel.bl_mk rfl⟩
  | all =>
    refine ⟨_, cr_all hc, fun {B ρ h H ps z vs Q} s rs e ot => ?_⟩
    unfold bi1 at e
    split at e <;> try contradiction
    obtain ⟨v, rfl, r⟩ := rs.one_inv
    obtain ⟨bs, e1, e2⟩ := Option.map_eq_some_iff.mp e
    subst e2
    obtain ⟨l, e3, e4⟩ := Option.bind_eq_some_iff.mp e1
    obtain ⟨a, ws, rfl, f, zz, rs'⟩ := lst_at s r e3
    rw [bls_V e4 rs'] at f
    exact ⟨a, bs, rfl, SqL.of f, ot.here s Rel.bl_mk rfl⟩
  | sum =>
    refine ⟨_, cr_sum hc, fun {B ρ h H ps z vs Q} s rs e ot => ?_⟩
    unfold bi1 at e
    split at e <;> try contradiction
    obtain ⟨v, rfl, r⟩ := rs.one_inv
    obtain ⟨bs, e1, e2⟩ := Option.map_eq_some_iff.mp e
    subst e2
    obtain ⟨l, e3, e4⟩ := Option.bind_eq_some_iff.mp e1
    obtain ⟨a, ws, rfl, f, zz, rs'⟩ := lst_at s r e3
    rw [ints_V e4 rs'] at f
    exact ⟨a, bs, rfl, SqL.of f, ot.here s Rel.int_mk rfl⟩
  | min2 =>
    refine ⟨_, call_min2 hc, fun {B ρ h H ps z vs Q} s rs e ot => ?_⟩
    unfold bi1 at e
    split at e <;> try contradiction
    cases e
    obtain ⟨v, w, rfl, r1, r2⟩ := rs.two_inv
    rw [r1.int_inv, r2.int_inv]
    exact ⟨_, _, rfl, ot.here s Rel.int_mk rfl⟩
  | max2 =>
    refine ⟨_, call_max2 hc, fun {B ρ h H ps z vs Q} s rs e ot => ?_⟩
    unfold bi1 at e
    split at e <;> try contradiction
    cases e
    obtain ⟨v, w, rfl, r1, r2⟩ := rs.two_inv
    rw [r1.int_inv, r2.int_inv]
    exact ⟨_, _, rfl, ot.here s Rel.int_mk rfl⟩
  | str =>
    refine ⟨_, call_str_int, fun {B ρ h H ps z vs Q} s rs e ot => ?_⟩
    unfold bi1 at e
    split at e <;> try contradiction
    split at e <;> try contradiction
    rename_i hi
    cases e
    obtain ⟨w, ws, rfl, a, b⟩ := rs.cons_inv
    rw [b.nil_inv, a.int_inv]
    exact ⟨_, rfl, hi, ot.here s Rel.str_mk rfl⟩
end
end Y

/-! K3d: isinstance, methods, stores by values -/
namespace Y
open PySem PySem.Spec PyProof.Rows L2

def tyN : Ty → Str
  | .int => "int" | .bool => "bool" | .str => "str" | .tuple => "tuple" | .list => "list"
def tyS : Ty → String
  | .int => "int" | .bool => "bool" | .str => "str" | .tuple => "tuple" | .list => "list"
theorem ty_boot (t : Ty) : bootBuiltins (tyN t) = some (.type (tyS t)) ∧ tyN t ≠ "__name__" ∧ (tyN t == ("__debug__" : Str)) = false := by
  cases t <;> exact ⟨by decide +kernel, by decide +kernel, by decide +kernel⟩
section
variable {X : Cx} {B : Addr → Prop} {ρ : List Addr} {h : Hh} {H : Hp}
theorem isi_at {x : PV} {v : V} {t : Ty} {b : Bool} (s : SR (kf X) B ρ h H) (r : Rel (kf X) B ρ H x v) (e : isiV h x t = some b) : ∃ T : String, TyX X.K H v (.type T) ∧ PySem.W.kitOne X.K (.type T) (.type (tyS t)) = some b := by
  cases x with
  | non =>
    rw [r.non_inv]; simp only [isiV] at e; cases e
    exact ⟨_, .base .non, by cases t <;> exact kit_ty (by decide +kernel)⟩
  | bl y =>
    rw [r.bl_inv]; simp only [isiV] at e; cases e
    exact ⟨_, .base (.bl y), by cases t <;> exact kit_ty (by decide +kernel)⟩
  | int i =>
    rw [r.int_inv]; simp only [isiV] at e; cases e
    exact ⟨_, .base (.int i), by cases t <;> exact kit_ty (by decide +kernel)⟩
  | str y =>
    rw [r.str_inv]; simp only [isiV] at e; cases e
    exact ⟨_, .base (.str y), by cases t <;> exact kit_ty (by decide +kernel)⟩
  | tup l =>
    obtain ⟨a, vs, rfl, f, zv, rs⟩ := r.tup_inv
    simp only [isiV] at e; cases e
    refine ⟨"tuple", ?_, by cases t <;> exact kit_ty (by decide +kernel)⟩
    rcases f with ⟨o, _, _, f⟩ | ⟨o, its, n, h1, h2, h3, _⟩
    · exact .fTuple f
    · exact .kTuple h1 h2
  | lst l =>
    obtain ⟨a, vs, rfl, f, zv, rs⟩ := r.lst_inv
    simp only [isiV] at e; cases e
    exact ⟨"list", .base (.lst f.1), by cases t <;> exact kit_ty (by decide +kernel)⟩
  | dct ks ws => simp only [isiV] at e; contradiction
  | scr l => simp only [isiV] at e; contradiction
  | ref i =>
    obtain ⟨a, ra, rfl⟩ := r.ref_inv
    simp only [isiV] at e
    split at e <;> try contradiction
    cases e
    rename_i l hx
    obtain ⟨a', ra', vs, q, z, rs⟩ := s.at hx
    rw [ra] at ra'; cases ra'
    exact ⟨"list", .base (.lst q), by cases t <;> exact kit_ty (by decide +kernel)⟩

theorem key_eq {k : PV} (e : isKey k = true) (p : Key) : (keyP p = k) ↔ (p = toK k) :=
  ⟨fun q => by rw [← q, toK_keyP], fun q => by rw [q, keyP_toK e]⟩
theorem put_map {k : PV} {u : V} (e : isKey k = true) {x : PV} (rx : Rel (kf X) B ρ H x u) : ∀ {kvs : List (Key × V)} {ws : List PV}, Rels (kf X) B ρ H ws (kvs.map (·.2)) →
    Rels (kf X) B ρ H (List.zipWith (fun z y => if z = k then x else y) (kvs.map fun p => keyP p.1) ws) ((kvs.map (fun kv => if kv.1 = toK k then (kv.1, u) else kv)).map (·.2))
  | [], ws, r => by simp; exact Rels.nil
  | p :: kvs, ws, r => by
    cases ws with
    | nil => exact absurd r.length (by simp)
    | cons w ws =>
      obtain ⟨v, vs, q, a, b⟩ := r.cons_inv
      simp only [List.map_cons] at q
      injection q with q1 q2
      subst q1 q2
      have ih := put_map e rx b
      simp only [List.map_cons, List.zipWith_cons_cons]
      refine Rels.cons ?_ ih
      by_cases hk : keyP p.1 = k
      · rw [if_pos hk, if_pos ((key_eq e p.1).mp hk)]; exact rx
      · rw [if_neg hk, if_neg (fun q => hk ((key_eq e p.1).mpr q))]; exact a
theorem put_V {k : PV} {u : V} (e : isKey k = true) {x : PV} {kvs : List (Key × V)} {ws : List PV} (rs : Rels (kf X) B ρ H ws (kvs.map (·.2))) (rx : Rel (kf X) B ρ H x u) :
    (dput k x (kvs.map fun p => keyP p.1) ws).1 = (putK kvs (toK k) u).map (fun p => keyP p.1) ∧ Rels (kf X) B ρ H (dput k x (kvs.map fun p => keyP p.1) ws).2 ((putK kvs (toK k) u).map (·.2)) ∧ (putK kvs (toK k) u).length ≤ kvs.length + 1 := by
  have ha : ((kvs.map fun p => keyP p.1).any fun z => decide (z = k)) = kvs.any fun kv => decide (kv.1 = toK k) := by
    rw [List.any_map]
    congr 1
    funext p
    simp only [Function.comp]
    exact decide_eq_decide.mpr (key_eq e p.1)
  unfold dput putK
  rw [ha]
  split
  · refine ⟨?_, put_map e rx rs, by simp⟩
    simp only [List.map_map]
    congr 1
    funext p
    simp only [Function.comp]
    split <;> rfl
  · refine ⟨?_, ?_, by simp⟩
    · simp [keyP_toK e]
    · simp only [List.map_append, List.map_cons, List.map_nil]
      exact rs.append (Rels.cons rx Rels.nil)
/-- a[i] = v -/
theorem set_ok (hr : ∃ k, Room k X.A) : ∃ r : TSet, PSet X r ∧ ∀ {B : Addr → Prop} {ρ : List Addr} {h h' : Hh} {H : Hp} {o i x : PV} {v w u : V} {Q : Hp → Prop}, SR (kf X) B ρ h H → Rel (kf X) B ρ H o v → Rel (kf X) B ρ H i w → Rel (kf X) B ρ H x u → setV o i x h = .ok () h' →
    (∀ H', Ext ρ H ρ H' → SR (kf X) B ρ h' H' → Q H') → r v w u H Q := by
  obtain ⟨k, hr⟩ := hr
  have hu1 : X.A.units + 1 < cLine := by have := hr.units; omega
  refine ⟨fun o i v H Q => rSetL o i v H Q ∨ rSetD o i v H Q, ?_, fun {B ρ h h' H o i x v w u Q} s ro ri rx e ot => ?_⟩
  · intro pins s σ H o i v ov iv u Q I ro ri rv q
    rcases q with q | q
    · exact set_list pins s σ H o i v ov iv u Q I ro ri rv q
    · exact set_dict hu1 pins s σ H o i v ov iv u Q I ro ri rv q
  · unfold setV at e
    split at e <;> try contradiction
    obtain ⟨a, ra, rfl⟩ := ro.ref_inv
    split at e
    · rename_i l hx
      split at e <;> try contradiction
      rename_i z
      split at e <;> try contradiction
      rename_i j hj
      obtain ⟨a', ra', vs, q, zz, rs⟩ := s.at hx
      rw [ra] at ra'; cases ra'
      have hm : a ∈ ρ := List.mem_of_getElem? ra
      injection e with _ e
      subst e
      rw [ri.int_inv]
      refine .inl ⟨a, vs, z, j, rfl, rfl, q, by rw [← rs.length]; exact hj, ot _ (Ext.write s hm) (s.write ra ⟨vs.set j u, upd_same, by rw [List.length_set]; exact zz, (rs.set j rx).mono (Ext.write s hm)⟩)⟩
    · rename_i ks ws hx
      split at e <;> try contradiction
      rename_i hk
      rw [Bool.and_eq_true] at hk
      obtain ⟨a', ra', kvs, q, zz, rfl, rs⟩ := s.at hx
      rw [ra] at ra'; cases ra'
      have hm : a ∈ ρ := List.mem_of_getElem? ra
      injection e with _ e
      subst e
      have hlt : kvs.length < SZ := by
        have := of_decide_eq_true hk.2
        rwa [List.length_map] at this
      obtain ⟨p1, p2, p3⟩ := put_V (x := x) hk.1 rs rx
      refine .inr ⟨a, upd H a (.dK (putK kvs (toK i) u)), rfl, by rw [key_V hk.1 ri]; exact DPut.k q (by rw [SZ_eq]; exact hlt), ot _ (Ext.write s hm) (s.write ra ⟨putK kvs (toK i) u, upd_same, ?_, p1, p2.mono (Ext.write s hm)⟩)⟩
      omega
    · contradiction
theorem seq_ix {n : Nat} {i : Int} {j : Nat} (h : ixN n i = some j) : seqIndex? i n = some j ∧ j < n ∧ -(n : Int) ≤ i ∧ i < n := ixN_seq h
def OutM (X : Cx) (B : Addr → Prop) (ρ : List Addr) (H : Hp) (h' : Hh) (z : PV) (Q : VK) : Prop := ∀ ρ' H' u, Ext ρ H ρ' H' → SR (kf X) B ρ' h' H' → Rel (kf X) B ρ' H' z u → Q u H'
theorem Rel.getLast {l : List PV} {vs : List V} {y : PV} (r : Rels (kf X) B ρ H l vs) (e : l.getLast? = some y) : ∃ v, vs[vs.length - 1]? = some v ∧ Rel (kf X) B ρ H y v := by
  rw [List.getLast?_eq_getElem?, r.length] at e
  exact r.get e
theorem Rels.dropLast {l : List PV} {vs : List V} (r : Rels (kf X) B ρ H l vs) : Rels (kf X) B ρ H l.dropLast vs.dropLast := by
  rw [List.dropLast_eq_take, List.dropLast_eq_take, r.length]
  exact r.take _
/-- the methods of lists with arguments -/
def mtId : Mt → String
  | .append => "list.append" | .extend => "list.extend" | .pop0 => "list.pop" | .pop1 => "list.pop" | .insert => "list.insert" | .index => "list.index" | .join => "str.join" | .get1 => "dict.get"
def mtNm : Mt → Str
  | .append => "append" | .extend => "extend" | .pop0 => "pop" | .pop1 => "pop" | .insert => "insert" | .index => "index" | .join => "join" | .get1 => "get"
theorem mtL_ok (m : Mt) (hm : m = .append ∨ m = .extend ∨ m = .pop0 ∨ m = .pop1 ∨ m = .insert) : ∃ r : V → List V → Hp → VK → Prop, Slot "list" (mtNm m) (mtId m) ∧ typeOf (.builtin (mtId m)) = pure (.type "method_descriptor") ∧ MtR X (mtId m) r ∧
    ∀ {B : Addr → Prop} {ρ : List Addr} {h h' : Hh} {H : Hp} {x z : PV} {ps : List PV} {v : V} {vs : List V} {Q : VK}, SR (kf X) B ρ h H → Rel (kf X) B ρ H x v → Rels (kf X) B ρ H ps vs → mtV m x ps h = .ok z h' → OutM X B ρ H h' z Q → r v vs H Q := by
  rcases hm with rfl | rfl | rfl | rfl | rfl
  · refine ⟨_, PySem.F.slot_list_append, PySem.F.type_list_append, mt_append, fun {B ρ h h' H x z ps v vs Q} s rx rs e ot => ?_⟩
    simp only [mtV] at e
    unfold mAppend at e
    split at e <;> try contradiction
    rename_i i y
    obtain ⟨a, ra, rfl⟩ := rx.ref_inv
    obtain ⟨w, rfl, ry⟩ := rs.one_inv
    split at e <;> try contradiction
    rename_i l hx
    split at e <;> try contradiction
    rename_i hz
    obtain ⟨a', ra', vs, q, zz, rs'⟩ := s.at hx
    rw [ra] at ra'; cases ra'
    have hm : a ∈ ρ := List.mem_of_getElem? ra
    cases e
    have hl : vs.length < SZ := by rw [← rs'.length]; exact hz
    exact ⟨a, vs, w, rfl, rfl, q, by rw [SZ_eq]; exact hl, ot _ _ _ (Ext.write s hm) (s.write ra ⟨vs ++ [w], upd_same, by simp; omega, (rs'.append (Rels.cons ry Rels.nil)).mono (Ext.write s hm)⟩) Rel.non_mk⟩
  · refine ⟨fun v vs H Q => rExtend v vs H Q ∨ rExtT X.K v vs H Q, PySem.F.slot_list_extend, PySem.F.type_list_extend, (fun pins s σ H x vs v us Q I rx rv hh => hh.elim (fun hh => mt_extend pins s σ H x vs v us Q I rx rv hh) fun hh => mt_extT pins s σ H x vs v us Q I rx rv hh), fun {B ρ h h' H x z ps v vs Q} s rx rs e ot => ?_⟩
    simp only [mtV] at e
    unfold mExtend at e
    split at e <;> try contradiction
    rename_i i y
    obtain ⟨a, ra, rfl⟩ := rx.ref_inv
    obtain ⟨w, rfl, ry⟩ := rs.one_inv
    split at e <;> try contradiction
    rename_i l hx
    split at e <;> try contradiction
    rename_i r hr
    split at e <;> try contradiction
    rename_i hz
    obtain ⟨a', ra', vs, q, zz, rs'⟩ := s.at hx
    rw [ra] at ra'; cases ra'
    have hm : a ∈ ρ := List.mem_of_getElem? ra
    cases e
    by_cases ht : ∃ m, y = .tup m
    · obtain ⟨m, rfl⟩ := ht
      simp only [ltOf] at hr
      cases hr
      obtain ⟨b, ws, rfl, q2, zz2, rs2⟩ := ry.tup_inv
      have hl : vs.length + ws.length ≤ SZ := by rw [← rs'.length, ← rs2.length]; exact hz
      exact .inr ⟨a, b, vs, ws, rfl, rfl, q, tup_sq q2, by rw [SZ_eq]; exact hl, ot _ _ _ (Ext.write s hm) (s.write ra ⟨vs ++ ws, upd_same, by simp; omega, (rs'.append rs2).mono (Ext.write s hm)⟩) Rel.non_mk⟩
    have hr : lstOf h y = some r := by
      unfold ltOf at hr
      split at hr
      · exact absurd ⟨_, rfl⟩ ht
      · exact hr
    obtain ⟨b, ws, rfl, q2, zz2, rs2⟩ := lst_at s ry hr
    have hl : vs.length + ws.length ≤ SZ := by rw [← rs'.length, ← rs2.length]; exact hz
    exact .inl ⟨a, b, vs, ws, rfl, rfl, q, q2, by rw [SZ_eq]; exact hl, ot _ _ _ (Ext.write s hm) (s.write ra ⟨vs ++ ws, upd_same, by simp; omega, (rs'.append rs2).mono (Ext.write s hm)⟩) Rel.non_mk⟩
  · refine ⟨_, PySem.F.slot_list_pop, PySem.F.type_list_pop, mt_pop, fun {B ρ h h' H x z ps v vs Q} s rx rs e ot => ?_⟩
    simp only [mtV] at e
    unfold mPop0 at e
    split at e <;> try contradiction
    rename_i i
    obtain ⟨a, ra, rfl⟩ := rx.ref_inv
    split at e <;> try contradiction
    rename_i l hx
    split at e <;> try contradiction
    rename_i y hy
    obtain ⟨a', ra', vs, q, zz, rs'⟩ := s.at hx
    rw [ra] at ra'; cases ra'
    obtain ⟨w, hw, rw_⟩ := Rel.getLast rs' hy
    have hm : a ∈ ρ := List.mem_of_getElem? ra
    cases e
    exact ⟨a, vs, w, rfl, rs.nil_inv, q, hw, ot _ _ _ (Ext.write s hm) (s.write ra ⟨vs.dropLast, upd_same, by simp; omega, (rs'.dropLast).mono (Ext.write s hm)⟩) (rw_.mono (Ext.write s hm))⟩
  · refine ⟨_, PySem.F.slot_list_pop, PySem.F.type_list_pop, mt_popAt, fun {B ρ h h' H x z ps v vs Q} s rx rs e ot => ?_⟩
    simp only [mtV] at e
    unfold mPop1 at e
    split at e <;> try contradiction
    rename_i i k
    obtain ⟨a, ra, rfl⟩ := rx.ref_inv
    obtain ⟨w, rfl, ry⟩ := rs.one_inv
    rw [ry.int_inv]
    split at e <;> try contradiction
    rename_i l hx
    split at e <;> try contradiction
    rename_i j hj
    split at e <;> try contradiction
    rename_i y hy
    obtain ⟨a', ra', vs, q, zz, rs'⟩ := s.at hx
    rw [ra] at ra'; cases ra'
    obtain ⟨w, hw, rw_⟩ := rs'.get hy
    have hm : a ∈ ρ := List.mem_of_getElem? ra
    cases e
    rw [rs'.length] at hj
    obtain ⟨h1, h2, h3, h4⟩ := ixN_seq hj
    have z63 : (SZ : Int) < 2 ^ 63 := by decide
    have lel : (vs.eraseIdx j).length ≤ SZ := Nat.le_trans (List.length_eraseIdx_le ..) zz
    exact ⟨a, vs, k, j, w, rfl, rfl, q, by omega, by omega, h1, hw, ot _ _ _ (Ext.write s hm) (s.write ra ⟨vs.eraseIdx j, upd_same, lel, (rs'.eraseIdx j).mono (Ext.write s hm)⟩) (rw_.mono (Ext.write s hm))⟩
  · refine ⟨_, PySem.F.slot_list_insert, PySem.F.type_list_insert, mt_insert, fun {B ρ h h' H x z ps v vs Q} s rx rs e ot => ?_⟩
    simp only [mtV] at e
    unfold mInsert at e
    split at e <;> try contradiction
    rename_i i k y
    obtain ⟨a, ra, rfl⟩ := rx.ref_inv
    obtain ⟨w, w2, rfl, rk, ry⟩ := rs.two_inv
    rw [rk.int_inv]
    split at e <;> try contradiction
    rename_i l hx
    split at e <;> try contradiction
    rename_i hz
    obtain ⟨a', ra', vs, q, zz, rs'⟩ := s.at hx
    rw [ra] at ra'; cases ra'
    have hm : a ∈ ρ := List.mem_of_getElem? ra
    cases e
    have hl : vs.length < SZ := by rw [← rs'.length]; exact hz.2.2
    have hlen : (vs.take k.toNat ++ [w2] ++ vs.drop k.toNat).length ≤ SZ := by simp; omega
    exact ⟨a, vs, k, w2, rfl, rfl, q, by rw [SZ_eq]; exact hl, hz.1, hz.2.1, ot _ _ _ (Ext.write s hm) (s.write ra ⟨vs.take k.toNat ++ [w2] ++ vs.drop k.toNat, upd_same, hlen, (((rs'.take _).append (Rels.cons ry Rels.nil)).append (rs'.drop _)).mono (Ext.write s hm)⟩) Rel.non_mk⟩
end
end Y

/-! K3f: x[::-1] of tuples and lists -/
namespace YR
open PySem PyProof.Rows HT
section
variable {prog : Program} {w : World} {A : Around} {E : Value → Shared → Prop} {s : Shared}
theorem sliceApplied_rev {sl : Addr} {t : Tok} {n : Nat} {Q : Int × Int × Nat → Shared → Prop} (hs : s.heap.IsSliceOf sl .none .none (.int (-1) t))
    (h : Q ((n : Int) - 1, -1, n) s) : wpAny (model prog w) A (Builtin.Slice.sliceApplied (.ref sl) (pure (n : Int))) Q E s := by
  obtain ⟨os, hos, hcs, hds⟩ := id hs
  unfold Builtin.Slice.sliceApplied Builtin.Slice.sliceFields
  refine wpAny_bind (wpAny_bind (wpAny_field hos hds (x := .none) rfl (wpAny_bind (wpAny_field hos hds (x := .none) rfl (wpAny_bind (wpAny_field hos hds (x := .int (-1) t) rfl (wpAny_pure ?_)))))))
  refine wpAny_bind (slicePart_int ?_)
  show wpAny _ _ (if ((-1 : Int) == 0) = true then _ else _) _ _ s
  rw [if_neg (by decide)]
  refine wpAny_bind (slicePart_none (wpAny_bind (slicePart_none (wpAny_bind (wpAny_pure ?_)))))
  show wpAny _ _ (pure ((n : Int) - 1, (-1 : Int), Builtin.Slice.slicePlaces ((n : Int) - 1) (-1) (-1))) _ _ s
  have e : Builtin.Slice.slicePlaces ((n : Int) - 1) (-1) (-1) = n := by
    unfold Builtin.Slice.slicePlaces
    have h1 : ¬ ((-1 : Int) > 0) := by decide
    rw [if_neg h1]
    by_cases h : (n : Int) - 1 > -1
    · rw [if_pos h, show (- -1 : Int) = 1 by decide, Int.ediv_one]; omega
    · rw [if_neg h]; omega
  rw [e]
  exact wpAny_pure h
theorem fm_congr {α β} {f g : α → Option β} : ∀ {l : List α}, (∀ x ∈ l, f x = g x) → l.filterMap f = l.filterMap g
  | [], _ => rfl
  | x :: l, h => by
    rw [List.filterMap_cons, List.filterMap_cons, h x (List.mem_cons_self ..), fm_congr fun y hy => h y (List.mem_cons_of_mem _ hy)]
theorem pick_rev (xs : Array Value) : ((List.range xs.size).filterMap fun (m : Nat) => xs[(((xs.size : Int) - 1) + (m : Int) * (-1)).toNat]?).toArray = xs.toList.reverse.toArray := by
  congr 1
  have e : (List.range xs.size).filterMap (fun (m : Nat) => xs[(((xs.size : Int) - 1) + (m : Int) * (-1)).toNat]?) = ((List.range xs.size).map fun m => xs.size - 1 - m).filterMap (xs[·]?) := by
    rw [List.filterMap_map]
    refine fm_congr fun m hm => ?_
    have := List.mem_range.mp hm
    have e : (((xs.size : Int) - 1) + (m : Int) * (-1)).toNat = xs.size - 1 - m := by omega
    show xs[_]? = xs[_]?
    rw [e]
  rw [e, PySem.W.krv_range, List.filterMap_reverse, PySem.W.krv_all]
theorem getItem_tuple_rev {t sl : Addr} {items : Array Value} {tk : Tok} {Q : Value → Shared → Prop} (ht : IsTup s.heap t items) (hs : s.heap.IsSliceOf sl .none .none (.int (-1) tk))
    (h : Q (.ref s.heap.objs.size) { s with heap := s.heap.push { cls := .type "tuple", data := .seq items.toList.reverse.toArray } })
    (hsz : items.size ≤ sizeLine) : wpAny (model prog w) A (getItem (.ref t) (.ref sl)) Q E s := by
  have htake : sizeOk (.seq items.toList.reverse.toArray) := by
    show items.toList.reverse.toArray.size ≤ sizeLine
    rw [List.size_toArray, List.length_reverse, Array.length_toList]
    exact hsz
  obtain ⟨os, hos, hcs, hds⟩ := id hs
  have hTs : s.TypeIs (.ref sl) "slice" := ⟨os, hos, hcs⟩
  unfold getItem
  try with_reducible refine wpAny_holding ?_
  first | refine wpAny_bind (wpAny_pure ?_) | skip
  refine wpAny_bind (wpAny_sequenceKey ht.typeIs (by decide) ?_)
  refine wpAny_bind (wpAny_callSpecial?_slot (name := Str.ofString "__getitem__") ht.typeIs PyProof.Rows.slot_tuple_getitem
    (wpAny_call_entry PyProof.Rows.slot_tuple_getitem ht.typeIs entry_tuple_getitem ?_ (args_tuple_getitem _ _)))
  show wpAny _ _ (Builtin.Tuple.tupleItemsOf (.ref t) >>= _) _ _ s
  refine wpAny_bind (tupleItemsOf_ ht ?_)
  refine wpAny_bind (wpAny_typeOf hTs ?_)
  rw [if_pos (by decide)]
  refine wpAny_bind (sliceApplied_rev hs ?_)
  have hno : ¬ ((((items.size : Int) - 1) == 0 && (-1 : Int) == 1 && items.size == items.size) = true) := by simp
  show wpAny _ _ (if (((items.size : Int) - 1) == 0 && (-1 : Int) == 1 && items.size == items.size) = true then _ else _) _ _ s
  rw [if_neg hno, pick_rev]
  first
    | exact wpAny_bind (m := Builtin.Tuple.tupleExact _) (wpAny_newObj_type (wpAny_pure ⟨_, rfl, wpAny_pure h⟩) htake)
    | exact wpAny_bind (m := Builtin.Tuple.tupleExact _) (wpAny_newObj_type (wpAny_bind (wpAny_pure (wpAny_pure ⟨_, rfl, wpAny_pure h⟩))) htake)
    | exact wpAny_bind (wpAny_bind (m := Builtin.Tuple.tupleExact _) (wpAny_newObj_type (wpAny_pure (wpAny_pure ⟨_, rfl, wpAny_pure h⟩)) htake))
    | exact wpAny_bind (wpAny_bind (m := Builtin.Tuple.tupleExact _) (wpAny_newObj_type (wpAny_pure ⟨_, rfl, wpAny_pure h⟩) htake))
end
end YR

namespace Y
open PySem PySem.Spec PyProof.Rows L2
def tRevA (K : PySem.W.Frag) (te : TE) : TE := fun σ H Q => te σ H fun x H1 => ∃ a xs, x = .ref a ∧ ((SqL K H1 a xs ∧ ∀ p, H1 p = none → Q (.ref p) (upd H1 p (.lst xs.reverse))) ∨ (SqT K H1 a xs ∧ NewT H1 xs.reverse Q))
theorem pe_revA {X : Cx} {e : Expr} {te : TE} {k : Nat} {p1 p2 p3 pos : Pos} (he : PE X e te) : PE X (.Subscript e (.Slice none none (some (.UnaryOp .USub (.Constant (.int 1) k p1) p2)) p3) pos) (tRevA X.K te) := by
  refine ⟨fun pins s σ H Q I h => ?_⟩
  refine Subscript_ (thn (he.run pins s σ H _ I h) fun v s1 ⟨x, H1, I1, r1, q1⟩ => ?_)
  obtain ⟨a, xs, ex, hx⟩ := q1
  subst ex
  cases r1
  have hst : PO X (some (.UnaryOp .USub (.Constant (.int 1) k p1) p2)) (tPart (tUn (rU fun i => .int (-i)) (tC (.int 1)))) := po_some (pe_un un_neg pe_int)
  refine wpAny_Slice (thn (po_none.run pins s1 σ H1 (fun o H2 => o = none ∧ H2 = H1) I1 ⟨rfl, rfl⟩) fun vl s2 ⟨l, H2, I2, pl, el, e2⟩ => ?_)
  subst el e2
  refine thn (po_none.run pins s2 σ H2 (fun o H3 => o = none ∧ H3 = H2) I2 ⟨rfl, rfl⟩) fun vu s3 ⟨u, H3, I3, pu, eu, e3⟩ => ?_
  subst eu e3
  refine thn (hst.run pins s3 σ H3 (fun o H4 => o = some (-1) ∧ H4 = H3) I3 ⟨1, rfl, -1, rfl, rfl, rfl⟩) fun vs s4 ⟨o, H4, I4, ps, eo, e4⟩ => ?_
  subst eo e4
  have I5 : Inv X pins σ H4 { s4 with heap := s4.heap.push { cls := .type "slice", data := .fields #[vl, vu, vs] } } := I4.kept (t' := s4.toks) fun b ob q => Heap.get?_push_of_some _ q
  show wpAny (model X.prog X.w) X.A (subscriptTail e (.Slice none none (some (.UnaryOp .USub (.Constant (.int 1) k p1) p2)) p3) (.ref a) (.ref s4.heap.objs.size)) (EP X pins σ Q) X.xe { s4 with heap := s4.heap.push { cls := .type "slice", data := .fields #[vl, vu, vs] } }
  rcases hx with ⟨hx, q⟩ | ⟨hx, q⟩
  · obtain ⟨its, r, ht, hz⟩ := I5.list hx
    have hlen := r.length
    refine tail_any (ops := [.ref a, .ref s4.heap.objs.size]) ht.isList.typeIs (PySem.slot_list_getitem.lookup) ?_ (by with_unfolding_all rfl)
    refine wpAny_getItem_list_slice ht.isList (Heap.IsSliceOf.new _ vl vu vs) pl pu ps (by decide) ?_ (by rw [List.size_toArray]; omega)
    rw [PySem.W.krv_pick]
    refine ⟨.ref _, _, I5.laid (t' := s4.toks) (o := .lst xs.reverse) (fun b ob q => Heap.get?_push_of_some _ q) (Nat.le_refl _) ?_, rfl, q _ (I5.hok.fresh (Nat.le_refl _))⟩
    exact ⟨by rw [List.length_reverse]; exact hz, _, 0, r.reverse, Heap.get?_push_size _ rfl⟩
  · obtain ⟨its, r, ht, hz⟩ := I5.tuple hx
    have hlen := r.length
    refine tail_any (ops := [.ref a, .ref s4.heap.objs.size]) ht.typeIs (PyProof.Rows.slot_tuple_getitem.lookup) ?_ (by with_unfolding_all rfl)
    cases pl
    cases pu
    cases ps
    refine YR.getItem_tuple_rev ht (Heap.IsSliceOf.new _ _ _ _) ?_ (by rw [List.size_toArray]; omega)
    exact newT_laid (tk := s4.toks) I5 r.reverse (by rw [List.length_reverse]; exact hz) q
end Y

/-! K3e: what is walked: lists or tuples, enumerate, zip -/
namespace YE
open PySem
open PySem.Sem (wp)
set_option maxHeartbeats 1000000 in
theorem meets_enumerate_new1 {v : Value} {o : Obj} {H : Heap → Prop} (B : Begins v o H) :
    Meets (Builtin.«enumerate.__new__» ⟨[.type "enumerate", v], []⟩) (fun _ R s => H s.heap ∧
      R (.ok (.ret (.ref (s.heap.push o).objs.size))) { s with heap := (s.heap.push o).push { cls := .type "enumerate", data := .fields #[.none, .bool false, .ref s.heap.objs.size, rawInt 0, .none, .none] } }) :=
  .of_wp fun prog w A R s h => by
    obtain ⟨hp, g, d, tk, os⟩ := s; obtain ⟨h1, h⟩ := h
    have hsub := sub_enumerate
    have q1 : ∀ {A' : Around} {E : Value → Shared → Prop} {Q : Value → Shared → Prop}, Q (.ref hp.objs.size) ⟨hp.push o, g, d, tk, os⟩ → wpAny (model prog w) A' (pyIter v) Q E ⟨hp, g, d, tk, os⟩ :=
      fun q => B.iter prog w _ _ ⟨hp, g, d, tk, os⟩ _ h1 q
    wp_walk using q1
    refine wpAny_stack_any fun st => wpAny_pure ?_
    split
    · rename_i c _ _ _ _ _
      cases (c == Value.type "enumerate")
      · wp_walk using q1
        exact ⟨_, rfl, h⟩
      · wp_walk using q1
        exact ⟨_, rfl, h⟩
    · wp_walk using q1
      exact ⟨_, rfl, h⟩
section
variable {prog : Program} {w : World} {A : Around} {E : Value → Shared → Prop} {s : Shared}
theorem enum_begins1 {v : Value} {o : Obj} {H : Heap → Prop} {Q : Value → Shared → Prop} (B : Begins v o H) (h1 : H s.heap)
    (h : ∀ h', IsEnum h' (s.heap.objs.size + 1) s.heap.objs.size 0 .none → h'.get? s.heap.objs.size = some o → h'.objs.size = s.heap.objs.size + 2 →
      (∀ b o, s.heap.get? b = some o → h'.get? b = some o) → Q (.ref (s.heap.objs.size + 1)) { s with heap := h' }) :
    wpAny (model prog w) A (call (.type "enumerate") [v]) Q E s := by
  refine callType_new F.called_enumerate (by decide) (F.typeCall_enumerate_1 _) (F.newCall_enumerate_1 _) (fun obj => F.args_object_init_2 obj _) F.entry_enumerate_new
    (meets_enumerate_new1 B) ⟨h1, ?_⟩
  have hz : (s.heap.push o).objs.size = s.heap.objs.size + 1 := Heap.size_push ..
  show _ ∧ _
  rw [hz]
  have he : IsEnum ((s.heap.push o).push { cls := .type "enumerate", data := .fields #[.none, .bool false, .ref s.heap.objs.size, rawInt 0, .none, .none] }) (s.heap.objs.size + 1) s.heap.objs.size 0 .none := by
    have := Heap.get?_push_size (s.heap.push o) (o := { cls := .type "enumerate", data := .fields #[.none, .bool false, .ref s.heap.objs.size, rawInt 0, .none, .none] }) rfl
    rw [hz] at this; exact this
  refine ⟨⟨_, he, rfl⟩, h _ he (Heap.get?_push_of_some _ (Heap.get?_push_size _ B.free)) (by rw [Heap.size_push, hz]) fun b o x => Heap.get?_push_of_some _ (Heap.get?_push_of_some _ x)⟩
end
end YE
namespace Y
open PySem PySem.Spec PyProof.Rows L2
/-- a tuple's items with their places -/
def IteT (K : PySem.W.Frag) (a : Addr) : It :=
  ⟨fun i H => ∃ (xs : List V) (x : V), SqT K H a xs ∧ xs[i]? = some x, fun i H v H' => ∃ T x, v = .ref T ∧ H T = none ∧ H' = upd H T (.tup [.int (i : Nat), x]) ∧ ∀ xs, SqT K H a xs → xs[i]? = some x, fun i H => ∃ xs : List V, SqT K H a xs ∧ xs.length = i⟩
theorem turn_enumT {P : Program} {w : World} {K : PySem.W.Frag} {elts : List Expr} {kk : Nat} {tpos : Pos} (a e it : Addr) :
    Turn P w K (.Tuple elts kk tpos) (IteT K a) [e, it] e (fun i h => (∃ old, IsEnum h e it ((i : Nat) : Int) old) ∧ h.IsTupleIter it a i ∧ e ≠ it ∧ a ≠ it ∧ e ≠ a) where
  mem := by simp
  obj := fun i h st b hb => by
    obtain ⟨⟨old, he⟩, ⟨o, ho, hc, hd⟩, _⟩ := st
    have e' : b = e ∨ b = it := by simpa using hb
    rcases e' with z | z
    · rw [z]; exact ⟨_, he, fun v q => nomatch q⟩
    · rw [z]; exact ⟨o, ho, fun v q => by rw [hd] at q; cases q⟩
  keep := fun i h h' st k => let ⟨⟨old, he⟩, hi, hne⟩ := st; ⟨⟨old, k e (by simp) _ he⟩, hi.at fun o q => k it (by simp) o q, hne⟩
  item := by
    intro X hP hw hK hc i pins s σ H E I hf st hg
    subst hP hw hK
    obtain ⟨⟨old, he⟩, hit, hne, hai, hea⟩ := st
    obtain ⟨xs, x, hq, hx⟩ := hg
    obtain ⟨its, rv, p, hz⟩ := I.tuple hq
    obtain ⟨u, hu, ru⟩ := rv.get hx
    have hel : e < s.heap.objs.size := Heap.lt_size he
    have hil : it < s.heap.objs.size := by obtain ⟨_, q, _⟩ := hit; exact Heap.lt_size q
    have D := Draws.tuple (prog := X.prog) (w := X.w) (A := X.A.in1) (show X.A.in1.handled = none from I.ok.hd hc) it a hai its.toArray
    have pT : s.heap.IsTuple a its.toArray := p
    have hilt : i < its.toArray.size := by
      have := (List.getElem?_eq_some_iff.mp hu).1
      simpa using this
    refine wpAny_pyNext_enum_itemD D he ⟨hit, pT⟩ hilt hne (by simp [hne, hea]) fun y h' tk hy ho hst' hT hsz hk => ?_
    have ey : y = u := by
      have : its.toArray[i]? = some u := by simpa using hu
      rw [this] at hy
      exact (Option.some.inj hy).symm
    subst ey
    refine ⟨_, rfl, wpAny_letOwnedTupleGo_enum (s := { s with heap := h', toks := tk + 1 }) ho fun h'' he' sb => ?_⟩
    have hT2 : h''.get? s.heap.objs.size = some { cls := .type "tuple", data := .seq #[.int i tk, y] } := (sb.2 _ (Nat.ne_of_gt hel)).trans hT
    have new : ObjOk X.prog X.w (upd H s.heap.objs.size (.tup [.int (i : Nat), x])) h'' s.heap.objs.size (.tup [.int (i : Nat), x]) :=
      ⟨by show 2 ≤ sizeLine; decide, [.int i tk, y], .cons ⟨_, rfl⟩ (.cons ru .nil), ⟨_, hT2, rfl, _, rfl⟩⟩
    have I1 : Inv X pins σ (upd H s.heap.objs.size (.tup [.int (i : Nat), x])) { s with heap := h'', toks := tk + 1 } :=
      I.turnedNew (ch := [e, it]) (fun b ob hb q => (sb.2 b (fun z => hb (by simp [z]))).trans (hk b ob (fun z => hb (by simp [z])) (fun z => hb (by simp [z])) q)) hf (Nat.le_refl _) new
    refine ⟨.ref s.heap.objs.size, _, I1, rfl, ⟨_, x, rfl, I.hok.fresh (Nat.le_refl _), rfl, fun ys hy => by rw [I.tuple_inj hy hq]; exact hx⟩, ⟨⟨y, ?_⟩, hst'.1.at fun o q => (sb.2 it (Ne.symm hne)).trans q, hne, hai, hea⟩, fun b hb => ?_⟩
    · have e1 : ((i + 1 : Nat) : Int) = (i : Int) + 1 := by omega
      rw [e1]; exact he'
    · have hb' : b < s.heap.objs.size := by
        have e' : b = e ∨ b = it := by simpa using hb
        rcases e' with z | z
        · rw [z]; exact hel
        · rw [z]; exact hil
      rw [upd_ne (Nat.ne_of_lt hb')]
      exact (hf b hb).1
  done := by
    intro X hP hw hK hc i pins s σ H E I hf st hg
    subst hP hw hK
    obtain ⟨⟨old, he⟩, hit, hne, hai, hea⟩ := st
    obtain ⟨xs, hq, hx⟩ := hg
    obtain ⟨its, rv, p, hz⟩ := I.tuple hq
    obtain ⟨f0, f1, f2, f3, f4, f5⟩ := hf it (by simp)
    have hl := rv.length
    have D := Draws.tuple (prog := X.prog) (w := X.w) (A := X.A.in1) (show X.A.in1.handled = none from I.ok.hd hc) it a hai its.toArray
    have pT : s.heap.IsTuple a its.toArray := p
    have ei : its.toArray.size = i := by simp; omega
    have he2 : IsEnum s.heap e it (i : Int) old := he
    refine wpAny_pyNext_enum_endD D he2 (by rw [ei]; exact ⟨hit, pT⟩) fun h' eb => ⟨rfl, I.turned (t' := s.toks) (fun b o hb q => eb b o hb q) f0 f1 f3 f4 f5⟩
  self := fun A i s Q E st h => let ⟨⟨_, he⟩, _⟩ := st; wpAny_pyIter_enum he h

section
variable {X : Cx} {tg : Expr}
/-- a list or a tuple -/
def iSeq (K : PySem.W.Frag) (tl : TE) : TI := fun σ H R => tl σ H fun x H1 => ∃ a, x = .ref a ∧ (((∃ xs, SqL K H1 a xs) ∧ R (Itl K a) H1) ∨ ((∃ xs, SqT K H1 a xs) ∧ R (Itt K a) H1))
theorem pi_seq {l : Expr} {tl : TE} (hl : PE X l tl) : PI X tg l (iSeq X.K tl) := by
  refine ⟨fun pins s σ H R I h => ?_⟩
  refine thn (hl.run pins s σ H _ I h) fun v s1 ⟨x, H1, I1, r1, q1⟩ => ?_
  obtain ⟨a, e, q⟩ := q1
  subst e
  cases r1
  rcases q with ⟨⟨xs, hq⟩, q⟩ | ⟨⟨xs, hq⟩, q⟩
  · obtain ⟨its, rv, p, hz⟩ := I1.list hq
    refine wpAny_pyIter_list p.isList ?_
    refine ⟨s1.heap.objs.size, [s1.heap.objs.size], _, _, H1, rfl, I1.kept (t' := s1.toks) fun b o e => Heap.get?_push_of_some _ e, turn_list a _, ⟨_, Heap.get?_push_size _ rfl, rfl, rfl⟩, fun b hb => ?_, q⟩
    have e : b = s1.heap.objs.size := by simpa using hb
    subst e
    exact I1.fpOk (Nat.le_refl _) (I1.hok.fresh (Nat.le_refl _))
  · obtain ⟨its, rv, p, hz⟩ := I1.tuple hq
    refine wpAny_pyIter_tuple (show s1.heap.IsTuple a its.toArray from p) ?_
    refine ⟨s1.heap.objs.size, [s1.heap.objs.size], _, _, H1, rfl, I1.kept (t' := s1.toks) fun b o e => Heap.get?_push_of_some _ e, turn_tuple a _, ⟨_, Heap.get?_push_size _ rfl, rfl, rfl⟩, fun b hb => ?_, q⟩
    have e : b = s1.heap.objs.size := by simpa using hb
    subst e
    exact I1.fpOk (Nat.le_refl _) (I1.hok.fresh (Nat.le_refl _))
/-- enumerate of a list or a tuple -/
def iEnumA (K : PySem.W.Frag) (ta : TA) : TI := fun σ H R => ta σ H fun vs H1 => ∃ a xs, vs = [.ref a] ∧ ((SqL K H1 a xs ∧ R (Ite K a) H1) ∨ (SqT K H1 a xs ∧ R (IteT K a) H1))
theorem pi_enumA {e : Expr} {ta : TA} {p pos tpos : Pos} {elts : List Expr} {kk : Nat} (hg : Gl X "enumerate") (hm : X.mg "enumerate" = none) (ha : PA X [e] ta) (hs : starEach [e] X.env = [(false, eval e X.env)]) :
    PI X (.Tuple elts kk tpos) (.Call (.Name "enumerate" p) [e] [] pos) (iEnumA X.K ta) := by
  refine ⟨fun pins s σ H R I h => ?_⟩
  refine Call_ (ld_blt I hg hm boot_enumerate (PyProof.Rows.callWith_type1 (thn (ha.run pos pins s σ H _ I h) fun us s1 ⟨vs, H1, I1, r1, q1⟩ => ?_) hs rfl))
  obtain ⟨a, xs, ex, q⟩ := q1
  subst ex
  cases r1 with
  | cons r rr =>
    cases rr
    cases r
    rcases q with ⟨hq, q⟩ | ⟨hq, q⟩
    · obtain ⟨its, rv, p', hz⟩ := I1.list hq
      refine call_enumerate_list p'.isList fun h' he hit hsz hk => wpAny_pyIter_enum he ?_
      have I2 : Inv X pins σ H1 { s1 with heap := h' } := I1.kept (t' := s1.toks) hk
      refine ⟨s1.heap.objs.size + 1, [s1.heap.objs.size + 1, s1.heap.objs.size], _, _, H1, rfl, I2, turn_enum a (s1.heap.objs.size + 1) s1.heap.objs.size, ⟨⟨.none, he⟩, hit, Nat.succ_ne_self _⟩, fun b hb => ?_, q⟩
      have e' : b = s1.heap.objs.size + 1 ∨ b = s1.heap.objs.size := by simpa using hb
      have hle : s1.heap.objs.size ≤ b := by
        rcases e' with z | z
        · rw [z]; exact Nat.le_add_right _ _
        · rw [z]; exact Nat.le_refl _
      exact I1.fpOk hle (I1.hok.fresh hle)
    · obtain ⟨its, rv, p', hz⟩ := I1.tuple hq
      have pT : s1.heap.IsTuple a its.toArray := p'
      have hal : a < s1.heap.objs.size := by obtain ⟨_, q, _⟩ := pT; exact Heap.lt_size q
      refine YE.enum_begins1 (begins_tuple a its.toArray) pT fun h' he hit hsz hk => wpAny_pyIter_enum he ?_
      have I2 : Inv X pins σ H1 { s1 with heap := h' } := I1.kept (t' := s1.toks) hk
      refine ⟨s1.heap.objs.size + 1, [s1.heap.objs.size + 1, s1.heap.objs.size], _, _, H1, rfl, I2, turn_enumT a (s1.heap.objs.size + 1) s1.heap.objs.size, ⟨⟨.none, he⟩, ⟨_, hit, rfl, rfl⟩, Nat.succ_ne_self _, Nat.ne_of_lt hal, Nat.ne_of_gt (Nat.lt_succ_of_lt hal)⟩, fun b hb => ?_, q⟩
      have e' : b = s1.heap.objs.size + 1 ∨ b = s1.heap.objs.size := by simpa using hb
      have hle : s1.heap.objs.size ≤ b := by
        rcases e' with z | z
        · rw [z]; exact Nat.le_add_right _ _
        · rw [z]; exact Nat.le_refl _
      exact I1.fpOk hle (I1.hok.fresh hle)
end
end Y

set_option maxHeartbeats 4000000
/-! K3h: enumerate(text) -/
namespace Y
open PySem PySem.Spec PyProof.Rows L2
variable {X : Cx}
/-! a text's signs with their places -/
def IteS (z : Str) : It :=
  ⟨fun i _ => i < z.cps.size, fun i H v H' => ∃ T c, v = .ref T ∧ H T = none ∧ H' = upd H T (.tup [.int (i : Nat), .str ⟨#[c]⟩]) ∧ z.cps[i]? = some c, fun i _ => z.cps.size = i⟩
theorem turn_enumS {P : Program} {w : World} {K : PySem.W.Frag} {elts : List Expr} {kk : Nat} {tpos : Pos} (z : Str) (t : Tok) (e it : Addr) :
    Turn P w K (.Tuple elts kk tpos) (IteS z) [e, it] e (fun i h => (∃ old, IsEnum h e it ((i : Nat) : Int) old) ∧ h.IsStrIter it (strIterType z) z t i ∧ e ≠ it) where
  mem := by simp
  obj := fun i h st b hb => by
    obtain ⟨⟨old, he⟩, ⟨o, ho, hc, hd⟩, _⟩ := st
    have e' : b = e ∨ b = it := by simpa using hb
    rcases e' with z | z
    · rw [z]; exact ⟨_, he, fun v q => nomatch q⟩
    · rw [z]; exact ⟨o, ho, fun v q => by rw [hd] at q; cases q⟩
  keep := fun i h h' st k => let ⟨⟨old, he⟩, ⟨o, ho, r⟩, hne⟩ := st; ⟨⟨old, k e (by simp) _ he⟩, ⟨o, k it (by simp) o ho, r⟩, hne⟩
  item := by
    intro X hP hw hK hc i pins s σ H E I hf st hg
    subst hP hw hK
    obtain ⟨⟨old, he⟩, hit, hne⟩ := st
    have hel : e < s.heap.objs.size := Heap.lt_size he
    have hil : it < s.heap.objs.size := by obtain ⟨_, q, _⟩ := hit; exact Heap.lt_size q
    have D := Draws.text (prog := X.prog) (w := X.w) (A := X.A.in1) (show X.A.in1.handled = none from I.ok.hd hc) it z t
    refine wpAny_pyNext_enum_itemD D he hit hg hne (by simp [hne]) fun y h' tk hy ho hst' hT hsz hk => ?_
    obtain ⟨c, ut, hcz, rfl⟩ := hy
    refine ⟨_, rfl, wpAny_letOwnedTupleGo_enum (s := { s with heap := h', toks := tk + 1 }) ho fun h'' he' sb => ?_⟩
    have hT2 : h''.get? s.heap.objs.size = some { cls := .type "tuple", data := .seq #[.int i tk, .str ⟨#[c]⟩ ut] } := (sb.2 _ (Nat.ne_of_gt hel)).trans hT
    have new : ObjOk X.prog X.w (upd H s.heap.objs.size (.tup [.int (i : Nat), .str ⟨#[c]⟩])) h'' s.heap.objs.size (.tup [.int (i : Nat), .str ⟨#[c]⟩]) :=
      ⟨by show 2 ≤ sizeLine; decide, [.int i tk, .str ⟨#[c]⟩ ut], .cons ⟨_, rfl⟩ (.cons ⟨_, rfl⟩ .nil), ⟨_, hT2, rfl, _, rfl⟩⟩
    have I1 : Inv X pins σ (upd H s.heap.objs.size (.tup [.int (i : Nat), .str ⟨#[c]⟩])) { s with heap := h'', toks := tk + 1 } :=
      I.turnedNew (ch := [e, it]) (fun b ob hb q => (sb.2 b (fun z => hb (by simp [z]))).trans (hk b ob (fun z => hb (by simp [z])) (fun z => hb (by simp [z])) q)) hf (Nat.le_refl _) new
    have keepit : h''.IsStrIter it (strIterType z) z t (i + 1) := by
      obtain ⟨o, q, r⟩ := hst'
      exact ⟨o, (sb.2 it (Ne.symm hne)).trans q, r⟩
    refine ⟨.ref s.heap.objs.size, _, I1, rfl, ⟨_, c, rfl, I.hok.fresh (Nat.le_refl _), rfl, hcz⟩, ⟨⟨.str ⟨#[c]⟩ ut, ?_⟩, keepit, hne⟩, fun b hb => ?_⟩
    · have e1 : ((i + 1 : Nat) : Int) = (i : Int) + 1 := by omega
      rw [e1]; exact he'
    · have hb' : b < s.heap.objs.size := by
        have e' : b = e ∨ b = it := by simpa using hb
        rcases e' with z | z
        · rw [z]; exact hel
        · rw [z]; exact hil
      rw [upd_ne (Nat.ne_of_lt hb')]
      exact (hf b hb).1
  done := by
    intro X hP hw hK hc i pins s σ H E I hf st hg
    subst hP hw hK
    obtain ⟨⟨old, he⟩, hit, hne⟩ := st
    obtain ⟨f0, f1, f2, f3, f4, f5⟩ := hf it (by simp)
    have D := Draws.text (prog := X.prog) (w := X.w) (A := X.A.in1) (show X.A.in1.handled = none from I.ok.hd hc) it z t
    subst hg
    exact wpAny_pyNext_enum_endD D he hit fun h' eb => ⟨rfl, I.turned (t' := s.toks) (fun b o hb q => eb b o hb q) f0 f1 f3 f4 f5⟩
  self := fun A i s Q E st h => let ⟨⟨_, he⟩, _⟩ := st; wpAny_pyIter_enum he h
/-- enumerate of a text -/
def iEnumS (ta : TA) : TI := fun σ H R => ta σ H fun vs H1 => ∃ z, vs = [.str z] ∧ R (IteS z) H1
theorem pi_enumS {e : Expr} {ta : TA} {p pos tpos : Pos} {elts : List Expr} {kk : Nat} (hg : Gl X "enumerate") (hm : X.mg "enumerate" = none) (ha : PA X [e] ta) (hs : starEach [e] X.env = [(false, eval e X.env)]) :
    PI X (.Tuple elts kk tpos) (.Call (.Name "enumerate" p) [e] [] pos) (iEnumS ta) := by
  refine ⟨fun pins s σ H R I h => ?_⟩
  refine Call_ (ld_blt I hg hm boot_enumerate (PyProof.Rows.callWith_type1 (thn (ha.run pos pins s σ H _ I h) fun us s1 ⟨vs, H1, I1, r1, q1⟩ => ?_) hs rfl))
  obtain ⟨z, ex, q⟩ := q1
  subst ex
  cases r1 with
  | cons r rr =>
    cases rr
    obtain ⟨t, rfl⟩ := r
    refine YE.enum_begins1 (begins_text z t) trivial fun h' he hit hsz hk => wpAny_pyIter_enum he ?_
    have I2 : Inv X pins σ H1 { s1 with heap := h' } := I1.kept (t' := s1.toks) hk
    refine ⟨s1.heap.objs.size + 1, [s1.heap.objs.size + 1, s1.heap.objs.size], _, _, H1, rfl, I2, turn_enumS z t (s1.heap.objs.size + 1) s1.heap.objs.size, ⟨⟨.none, he⟩, ⟨_, hit, rfl, rfl⟩, Nat.succ_ne_self _⟩, fun b hb => ?_, q⟩
    have e' : b = s1.heap.objs.size + 1 ∨ b = s1.heap.objs.size := by simpa using hb
    have hle : s1.heap.objs.size ≤ b := by
      rcases e' with z | z
      · rw [z]; exact Nat.le_add_right _ _
      · rw [z]; exact Nat.le_refl _
    exact I1.fpOk hle (I1.hok.fresh hle)
end Y

/-! K4: expressions: each form's rule, read by runs -/
namespace Y
open PySem PySem.Spec PyProof.Rows L2

section
variable (K : KF) (xw : L2.St → XW)
def freshV (B : Addr → Prop) (fr : Bool) (p : PV) (v : V) (H : Hp) (ρ' : List Addr) (h' : Hh) (H' : Hp) : Prop := fr = true → isL p = true → ∀ a, v = .ref a → H a = none ∧ Fresh K B ρ' h' H' p a
/-- an expression's reading by a run -/
def dn (m : Ev → M PV) (fr : Bool) : TE := fun σ H Q => ∃ B ρ h env, SR K B ρ h H ∧ EnvR K B ρ H env σ ∧ Post K B (xw σ) ρ H (m env h) fun p h' ρ' H' => ∀ v, Rel K B ρ' H' p v → freshV K B fr p v H ρ' h' H' → Q v H'
def dnB (m : Ev → M Bool) : TT := fun σ H Q => ∃ B ρ h env, SR K B ρ h H ∧ EnvR K B ρ H env σ ∧ Post K B (xw σ) ρ H (m env h) fun b _ _ H' => Q b H'
def dnL (m : Ev → M (List PV)) : TA := fun σ H Q => ∃ B ρ h env, SR K B ρ h H ∧ EnvR K B ρ H env σ ∧ Post K B (xw σ) ρ H (m env h) fun ps _ ρ' H' => ∀ vs, Rels K B ρ' H' ps vs → Q vs H'
def dnO (m : Ev → M (Option Int)) : TO := fun σ H Q => ∃ B ρ h env, SR K B ρ h H ∧ EnvR K B ρ H env σ ∧ Post K B (xw σ) ρ H (m env h) fun o _ _ H' => Q o H'
end

section
variable {X : Cx} {xw : L2.St → XW} {B : Addr → Prop}
theorem PE.mono {e : Expr} {t t' : TE} (p : PE X e t) (h : ∀ σ H Q, t' σ H Q → t σ H Q) : PE X e t' := ⟨fun pins s σ H Q I hw => p.run pins s σ H Q I (h σ H Q hw)⟩
theorem PT.mono {e : Expr} {t t' : TT} (p : PT X e t) (h : ∀ σ H Q, t' σ H Q → t σ H Q) : PT X e t' := ⟨fun pins s σ H Q I hw => p.run pins s σ H Q I (h σ H Q hw)⟩
theorem PW.mono {e : Expr} {t t' : TT} (p : PW X e t) (h : ∀ σ H Q, t' σ H Q → t σ H Q) : PW X e t' := ⟨fun wh pins s σ H Q I hw => p.run wh pins s σ H Q I (h σ H Q hw)⟩
theorem PA.mono {e : List Expr} {t t' : TA} (p : PA X e t) (h : ∀ σ H Q, t' σ H Q → t σ H Q) : PA X e t' := ⟨fun pos pins s σ H Q I hw => p.run pos pins s σ H Q I (h σ H Q hw)⟩
theorem PO.mono {e : Option Expr} {t t' : TO} (p : PO X e t) (h : ∀ σ H Q, t' σ H Q → t σ H Q) : PO X e t' := ⟨fun pins s σ H Q I hw => p.run pins s σ H Q I (h σ H Q hw)⟩
theorem PTs.mono {e : List Expr} {t t' : TT} (p : PTs X e t) (h : ∀ σ H Q, t' σ H Q → t σ H Q) : PTs X e t' := ⟨fun pins s σ H Q I hw => p.run pins s σ H Q I (h σ H Q hw)⟩

/-- the first of two: m, then k -/
theorem dn_seq {α} {m : Ev → M PV} {fr : Bool} {k : PV → M α} {Φ : α → Hh → List Addr → Hp → Prop} {Q : VK} {σ : L2.St} {ρ : List Addr} {h : Hh} {H : Hp} {env : Ev} (s : SR (kf X) B ρ h H) (er : EnvR (kf X) B ρ H env σ) (p : Post (kf X) B (xw σ) ρ H ((m env >>= k) h) Φ)
    (f : ∀ x h1 ρ1 H1 v, Ext ρ H ρ1 H1 → SR (kf X) B ρ1 h1 H1 → EnvR (kf X) B ρ1 H1 env σ → Rel (kf X) B ρ1 H1 x v → freshV (kf X) B fr x v H ρ1 h1 H1 → Post (kf X) B (xw σ) ρ1 H1 (k x h1) Φ → Q v H1) : dn (kf X) xw m fr σ H Q :=
  ⟨B, ρ, h, env, s, er, p.bind.imp fun x h1 ρ1 H1 e1 s1 q v r fv => f x h1 ρ1 H1 v e1 s1 (er.mono e1) r fv q⟩
theorem dnB_seq {α} {m : Ev → M Bool} {k : Bool → M α} {Φ : α → Hh → List Addr → Hp → Prop} {Q : Bool → Hp → Prop} {σ : L2.St} {ρ : List Addr} {h : Hh} {H : Hp} {env : Ev} (s : SR (kf X) B ρ h H) (er : EnvR (kf X) B ρ H env σ) (p : Post (kf X) B (xw σ) ρ H ((m env >>= k) h) Φ)
    (f : ∀ x h1 ρ1 H1, Ext ρ H ρ1 H1 → SR (kf X) B ρ1 h1 H1 → EnvR (kf X) B ρ1 H1 env σ → Post (kf X) B (xw σ) ρ1 H1 (k x h1) Φ → Q x H1) : dnB (kf X) xw m σ H Q :=
  ⟨B, ρ, h, env, s, er, p.bind.imp fun x h1 ρ1 H1 e1 s1 q => f x h1 ρ1 H1 e1 s1 (er.mono e1) q⟩
theorem dnL_seq {α} {m : Ev → M (List PV)} {k : List PV → M α} {Φ : α → Hh → List Addr → Hp → Prop} {Q : List V → Hp → Prop} {σ : L2.St} {ρ : List Addr} {h : Hh} {H : Hp} {env : Ev} (s : SR (kf X) B ρ h H) (er : EnvR (kf X) B ρ H env σ) (p : Post (kf X) B (xw σ) ρ H ((m env >>= k) h) Φ)
    (f : ∀ x h1 ρ1 H1 v, Ext ρ H ρ1 H1 → SR (kf X) B ρ1 h1 H1 → EnvR (kf X) B ρ1 H1 env σ → Rels (kf X) B ρ1 H1 x v → Post (kf X) B (xw σ) ρ1 H1 (k x h1) Φ → Q v H1) : dnL (kf X) xw m σ H Q :=
  ⟨B, ρ, h, env, s, er, p.bind.imp fun x h1 ρ1 H1 e1 s1 q v r => f x h1 ρ1 H1 v e1 s1 (er.mono e1) r q⟩
theorem dnO_seq {α} {m : Ev → M (Option Int)} {k : Option Int → M α} {Φ : α → Hh → List Addr → Hp → Prop} {Q : Option Int → Hp → Prop} {σ : L2.St} {ρ : List Addr} {h : Hh} {H : Hp} {env : Ev} (s : SR (kf X) B ρ h H) (er : EnvR (kf X) B ρ H env σ) (p : Post (kf X) B (xw σ) ρ H ((m env >>= k) h) Φ)
    (f : ∀ x h1 ρ1 H1, Ext ρ H ρ1 H1 → SR (kf X) B ρ1 h1 H1 → EnvR (kf X) B ρ1 H1 env σ → Post (kf X) B (xw σ) ρ1 H1 (k x h1) Φ → Q x H1) : dnO (kf X) xw m σ H Q :=
  ⟨B, ρ, h, env, s, er, p.bind.imp fun x h1 ρ1 H1 e1 s1 q => f x h1 ρ1 H1 e1 s1 (er.mono e1) q⟩
/-- the last one: its own -/
theorem dn_last {m : Ev → M PV} {fr fr' : Bool} {H0 : Hp} {ρ0 : List Addr} {h0 : Hh} {Q : VK} {σ : L2.St} {ρ : List Addr} {h : Hh} {H : Hp} {env : Ev} (s0 : SR (kf X) B ρ0 h0 H0) (e0 : Ext ρ0 H0 ρ H) (s : SR (kf X) B ρ h H) (er : EnvR (kf X) B ρ H env σ)
    (p : Post (kf X) B (xw σ) ρ H (m env h) fun p h' ρ' H' => ∀ v, Rel (kf X) B ρ' H' p v → freshV (kf X) B fr' p v H0 ρ' h' H' → Q v H') (hf : fr' = true → fr = true) : dn (kf X) xw m fr σ H Q :=
  ⟨B, ρ, h, env, s, er, p.imp fun x h1 ρ1 H1 e1 s1 q v r fv => q v r fun a b c d => (fv (hf a) b c d).imp (s0.fresh_back s e0) id⟩
theorem pure_eq {α} (a : α) (h : Hh) : (Pure.pure a : M α) h = .ok a h := rfl

theorem d_const {e : Expr} {c : PV} {v : V} (p : PE X e (tC v)) (r : ∀ B ρ H, Rel (kf X) B ρ H c v) (n : isL c = false) : PE X e (dn (kf X) xw (fun _ h => .ok c h) false) :=
  PE.mono p fun σ H Q ⟨B, ρ, h, env, s, er, q⟩ => q ρ H (Ext.refl _ _) s v (r B ρ H) (fun a => by cases a)
theorem d_var {i : Nat} {e : Expr} (p : PE X e (tVar i)) : PE X e (dn (kf X) xw (fun env h => match env[i]? with | some (some v) => .ok v h | _ => .err) false) :=
  PE.mono p fun σ H Q ⟨B, ρ, h, env, s, er, q⟩ => by
    dsimp only at q
    split at q
    · rename_i v hv
      obtain ⟨w, e1, r⟩ := er.2 i v hv
      exact ⟨w, e1, q ρ H (Ext.refl _ _) s w r (fun a => by cases a)⟩
    · exact q.elim
theorem Post.eqn {α} {xw : XW} {ρ : List Addr} {H : Hp} {r : R α} {Φ : α → Hh → List Addr → Hp → Prop} (p : Post (kf X) B xw ρ H r Φ) : Post (kf X) B xw ρ H r (fun a h' ρ' H' => r = .ok a h' ∧ Φ a h' ρ' H') := by
  cases r with
  | ok a h => exact fun ρ' H' e s => ⟨rfl, p ρ' H' e s⟩
  | ex c fs h => exact p
  | err => exact p
theorem d_tup {es : List Expr} {k : Nat} {pos : Pos} {m : Ev → M (List PV)} (ha : PA X es (dnL (kf X) xw m)) (hl : ∀ env h vs h', m env h = .ok vs h' → vs.length ≤ SZ) : PE X (.Tuple es k pos) (dn (kf X) xw (fun env => do let vs ← m env; pure (.tup vs)) false) :=
  PE.mono (pe_tupN ha) fun σ H Q ⟨B, ρ, h, env, s, er, q⟩ => ⟨B, ρ, h, env, s, er, q.bind.eqn.imp fun x h1 ρ1 H1 e1 s1 ⟨em, q⟩ v r => by
    have hz' : v.length ≤ SZ := by rw [← r.length]; exact hl env h x h1 em
    rw [pure_eq] at q
    exact ⟨by rw [SZ_eq]; exact hz', fun p o oc od f => q ρ1 _ (Ext.new f) (s1.new f) _ (Rel.tup_new oc od s1 f hz' r) (fun a => by cases a)⟩⟩
theorem d_lst {es : List Expr} {pos : Pos} {m : Ev → M (List PV)} (ha : PA X es (dnL (kf X) xw m)) (hl : ∀ env h vs h', m env h = .ok vs h' → vs.length ≤ SZ) : PE X (.List es pos) (dn (kf X) xw (fun env => do let vs ← m env; pure (.lst vs)) true) :=
  PE.mono (pe_lst ha) fun σ H Q ⟨B, ρ, h, env, s, er, q⟩ => ⟨B, ρ, h, env, s, er, q.bind.eqn.imp fun x h1 ρ1 H1 e1 s1 ⟨em, q⟩ v r => by
    have hz' : v.length ≤ SZ := by rw [← r.length]; exact hl env h x h1 em
    rw [pure_eq] at q
    exact ⟨by rw [SZ_eq]; exact hz', fun p f => q ρ1 _ (Ext.new f) (s1.new f) _ (Rel.lst_new s1 f hz' r) (fun _ _ a ea => by cases ea; exact ⟨s.fresh_back s1 e1 f, fresh_lst s1 f hz' r⟩)⟩⟩
theorem d_nil : PA X [] (dnL (kf X) xw (fun _ h => .ok [] h)) :=
  PA.mono pa_nil fun σ H Q ⟨B, ρ, h, env, s, er, q⟩ => q ρ H (Ext.refl _ _) s [] Rels.nil
theorem d_cons {e : Expr} {es : List Expr} {m : Ev → M PV} {ms : Ev → M (List PV)} {fr : Bool} (he : PE X e (dn (kf X) xw m fr)) (hs : PA X es (dnL (kf X) xw ms)) (hst : starEach (e :: es) X.env = (false, eval e X.env) :: starEach es X.env) :
    PA X (e :: es) (dnL (kf X) xw (fun env => do let v ← m env; let vs ← ms env; pure (v :: vs))) :=
  PA.mono (pa_cons he hs hst) fun σ H Q ⟨B, ρ, h, env, s, er, q⟩ => dn_seq s er q fun x h1 ρ1 H1 v e1 s1 er1 r _ q => dnL_seq s1 er1 q fun xs h2 ρ2 H2 vs e2 s2 _ rs q => by
    rw [pure_eq] at q
    exact q ρ2 H2 (Ext.refl _ _) s2 (v :: vs) (Rels.cons (r.mono e2) rs)
theorem d_bin {o : Op2} {a b : Expr} {pos : Pos} {ma mb : Ev → M PV} {fa fb : Bool} (ha : PE X a (dn (kf X) xw ma fa)) (hb : PE X b (dn (kf X) xw mb fb)) :
    PE X (.BinOp a (opA o) b pos) (dn (kf X) xw (fun env => do let x ← ma env; let y ← mb env; fun h => lift (op2 h o x y) h) true) := by
  obtain ⟨r, hr, hk⟩ := op_ok (X := X) o
  refine PE.mono (pe_op hr ha hb) fun σ H Q ⟨B, ρ, h, env, s, er, q⟩ => dn_seq s er q fun x h1 ρ1 H1 v e1 s1 er1 r1 _ q => dn_seq s1 er1 q fun y h2 ρ2 H2 w e2 s2 _ r2 _ q => ?_
  have q : Post (kf X) B (xw σ) ρ2 H2 (lift (op2 h2 o x y) h2) _ := q
  cases hz : op2 h2 o x y with
  | none => rw [hz] at q; exact q.elim
  | some z =>
    rw [hz] at q
    refine hk s2 (r1.mono e2) r2 hz fun ρ' H' u e' s' ru fu => q ρ' H' e' s' u ru fun _ il a ea => ?_
    exact (fu il a ea).imp (s.fresh_back s2 (e1.trans e2)) id
theorem d_neg {a : Expr} {pos : Pos} {ma : Ev → M PV} {fa : Bool} (ha : PE X a (dn (kf X) xw ma fa)) :
    PE X (.UnaryOp .USub a pos) (dn (kf X) xw (fun env => do match ← ma env with | .int i => pure (.int (-i)) | _ => M.err) false) :=
  PE.mono (pe_un un_neg ha) fun σ H Q ⟨B, ρ, h, env, s, er, q⟩ => dn_seq s er q fun x h1 ρ1 H1 v e1 s1 er1 r1 _ q => by
    cases x <;> try exact q.elim
    rename_i i _
    rw [r1.int_inv]
    exact ⟨i, rfl, q ρ1 H1 (Ext.refl _ _) s1 _ Rel.int_mk (fun a => by cases a)⟩
theorem d_cmp {o : Cmp} {a b : Expr} {pos : Pos} {ma mb : Ev → M PV} {fa fb : Bool} (hr : ∃ k, Room k X.A) (ha : PE X a (dn (kf X) xw ma fa)) (hb : PE X b (dn (kf X) xw mb fb)) (hm : behindInMarks (cmpA o) b = false) :
    PE X (.Compare a [cmpA o] [b] pos) (dn (kf X) xw (fun env => do let x ← ma env; let y ← mb env; fun h => lift ((cmpV h o x y).map PV.bl) h) false) := by
  obtain ⟨r, hr, hk⟩ := cmp_ok (X := X) o hr
  refine PE.mono (pe_cmpR hr ha hb hm) fun σ H Q ⟨B, ρ, h, env, s, er, q⟩ => dn_seq s er q fun x h1 ρ1 H1 v e1 s1 er1 r1 _ q => dn_seq s1 er1 q fun y h2 ρ2 H2 w e2 s2 _ r2 _ q => ?_
  have q : Post (kf X) B (xw σ) ρ2 H2 (lift ((cmpV h2 o x y).map PV.bl) h2) _ := q
  cases hz : cmpV h2 o x y with
  | none => rw [hz] at q; exact q.elim
  | some z =>
    rw [hz] at q
    exact hk s2 (r1.mono e2) r2 hz (q ρ2 H2 (Ext.refl _ _) s2 _ Rel.bl_mk (fun a => by cases a))
theorem dt_cmp {o : Cmp} {a b : Expr} {pos : Pos} {ma mb : Ev → M PV} {fa fb : Bool} (hr : ∃ k, Room k X.A) (ha : PE X a (dn (kf X) xw ma fa)) (hb : PE X b (dn (kf X) xw mb fb)) (hm : behindInMarks (cmpA o) b = false) :
    PT X (.Compare a [cmpA o] [b] pos) (dnB (kf X) xw (fun env => do let v ← (do let x ← ma env; let y ← mb env; fun h => lift ((cmpV h o x y).map PV.bl) h); fun h => lift (truthy h v) h)) := by
  obtain ⟨r, hr, hk⟩ := cmp_ok (X := X) o hr
  refine PT.mono (pt_cmpR hr ha hb hm) fun σ H Q ⟨B, ρ, h, env, s, er, q⟩ => ?_
  have q := q.bind
  refine dn_seq s er q fun x h1 ρ1 H1 v e1 s1 er1 r1 _ q => dn_seq s1 er1 q fun y h2 ρ2 H2 w e2 s2 _ r2 _ q => ?_
  have q : Post (kf X) B (xw σ) ρ2 H2 (lift ((cmpV h2 o x y).map PV.bl) h2) _ := q
  cases hz : cmpV h2 o x y with
  | none => rw [hz] at q; exact q.elim
  | some z =>
    rw [hz] at q
    have q := q ρ2 H2 (Ext.refl _ _) s2
    exact hk s2 (r1.mono e2) r2 hz ⟨z, rfl, q ρ2 H2 (Ext.refl _ _) s2⟩
end
end Y

/-! K4b: further forms -/
namespace Y
open PySem PySem.Spec PyProof.Rows L2

section
variable {X : Cx} {xw : L2.St → XW} {B : Addr → Prop}
theorem d_chain {o o' : Cmp} {a b c : Expr} {pos : Pos} {ma mb mc : Ev → M PV} {fa fb fc : Bool} (hr : ∃ k, Room k X.A) (ha : PE X a (dn (kf X) xw ma fa)) (hb : PE X b (dn (kf X) xw mb fb)) (hc : PE X c (dn (kf X) xw mc fc)) (hm : lastMarks [cmpA o, cmpA o'] [b, c] = false) :
    PE X (.Compare a [cmpA o, cmpA o'] [b, c] pos) (dn (kf X) xw (fun env => do
      let x ← ma env
      let y ← mb env
      let k ← fun h => lift (cmpV h o x y) h
      if k then (do let z ← mc env; fun h => lift ((cmpV h o' y z).map .bl) h) else pure (.bl false)) false) := by
  obtain ⟨r, hr1, hk⟩ := cmp_ok (X := X) o hr
  obtain ⟨r', hr2, hk'⟩ := cmp_ok (X := X) o' hr
  refine PE.mono (pe_chain hr1 hr2 ha hb hc hm) fun σ H Q ⟨B, ρ, h, env, s, er, q⟩ => dn_seq s er q fun x h1 ρ1 H1 v e1 s1 er1 r1 _ q => dn_seq s1 er1 q fun y h2 ρ2 H2 w e2 s2 er2 r2 _ q => ?_
  have q : Post (kf X) B (xw σ) ρ2 H2 (lift (cmpV h2 o x y) h2) _ := q.bind
  cases hz : cmpV h2 o x y with
  | none => rw [hz] at q; exact q.elim
  | some z =>
    rw [hz] at q
    refine hk s2 (r1.mono e2) r2 hz ⟨z, rfl, ?_⟩
    have q := q ρ2 H2 (Ext.refl _ _) s2
    cases z with
    | false =>
      rw [if_neg Bool.false_ne_true]
      rw [if_neg Bool.false_ne_true, pure_eq] at q
      exact q ρ2 H2 (Ext.refl _ _) s2 _ Rel.bl_mk (fun a => by cases a)
    | true =>
      rw [if_pos rfl]
      rw [if_pos rfl] at q
      refine dn_seq s2 er2 q fun z h3 ρ3 H3 u e3 s3 er3 r3 _ q => ?_
      have q : Post (kf X) B (xw σ) ρ3 H3 (lift ((cmpV h3 o' y z).map PV.bl) h3) _ := q
      cases hz : cmpV h3 o' y z with
      | none => rw [hz] at q; exact q.elim
      | some b =>
        rw [hz] at q
        exact hk' s3 (r2.mono e3) r3 hz (q ρ3 H3 (Ext.refl _ _) s3 _ Rel.bl_mk (fun a => by cases a))
theorem dt_chain {o o' : Cmp} {a b c : Expr} {pos : Pos} {ma mb mc : Ev → M PV} {fa fb fc : Bool} (hr : ∃ k, Room k X.A) (ha : PE X a (dn (kf X) xw ma fa)) (hb : PE X b (dn (kf X) xw mb fb)) (hc : PE X c (dn (kf X) xw mc fc)) (hm : lastMarks [cmpA o, cmpA o'] [b, c] = false) :
    PT X (.Compare a [cmpA o, cmpA o'] [b, c] pos) (dnB (kf X) xw (fun env => do
      let v ← (do
        let x ← ma env
        let y ← mb env
        let k ← fun h => lift (cmpV h o x y) h
        if k then (do let z ← mc env; fun h => lift ((cmpV h o' y z).map PV.bl) h) else pure (.bl false))
      fun h => lift (truthy h v) h)) := by
  obtain ⟨r, hr1, hk⟩ := cmp_ok (X := X) o hr
  obtain ⟨r', hr2, hk'⟩ := cmp_ok (X := X) o' hr
  refine PT.mono (pt_chain hr1 hr2 ha hb hc hm) fun σ H Q ⟨B, ρ, h, env, s, er, q⟩ => ?_
  have q := q.bind
  refine dn_seq s er q fun x h1 ρ1 H1 v e1 s1 er1 r1 _ q => dn_seq s1 er1 q fun y h2 ρ2 H2 w e2 s2 er2 r2 _ q => ?_
  have q : Post (kf X) B (xw σ) ρ2 H2 (lift (cmpV h2 o x y) h2) _ := q.bind
  cases hz : cmpV h2 o x y with
  | none => rw [hz] at q; exact q.elim
  | some z =>
    rw [hz] at q
    refine hk s2 (r1.mono e2) r2 hz ⟨z, rfl, ?_⟩
    have q := q ρ2 H2 (Ext.refl _ _) s2
    cases z with
    | false =>
      rw [if_neg Bool.false_ne_true]
      rw [if_neg Bool.false_ne_true, pure_eq] at q
      have q := q ρ2 H2 (Ext.refl _ _) s2
      exact ⟨false, rfl, q ρ2 H2 (Ext.refl _ _) s2⟩
    | true =>
      rw [if_pos rfl]
      rw [if_pos rfl] at q
      refine dn_seq s2 er2 q fun z h3 ρ3 H3 u e3 s3 er3 r3 _ q => ?_
      have q : Post (kf X) B (xw σ) ρ3 H3 (lift ((cmpV h3 o' y z).map PV.bl) h3) _ := q
      cases hz : cmpV h3 o' y z with
      | none => rw [hz] at q; exact q.elim
      | some b =>
        rw [hz] at q
        have q := q ρ3 H3 (Ext.refl _ _) s3
        exact hk' s3 (r2.mono e3) r3 hz ⟨b, rfl, q ρ3 H3 (Ext.refl _ _) s3⟩
/-- a test by its value -/
theorem dt_val {e : Expr} {m : Ev → M PV} {fr : Bool} (he : PE X e (dn (kf X) xw m fr)) (ht : ∀ whole, isTrue e X.env whole = (do let v ← whole; standAt e.pos; holding [v] (PySem.truthy v))) :
    PT X e (dnB (kf X) xw (fun env => do let v ← m env; fun h => lift (Y.truthy h v) h)) :=
  PT.mono (pt_truth he ht) fun σ H Q ⟨B, ρ, h, env, s, er, q⟩ => dn_seq s er q fun x h1 ρ1 H1 v e1 s1 er1 r1 _ q => by
    have q : Post (kf X) B (xw σ) ρ1 H1 (lift (Y.truthy h1 x) h1) _ := q
    cases hz : Y.truthy h1 x with
    | none => rw [hz] at q; exact q.elim
    | some b =>
      rw [hz] at q
      exact ⟨b, tru_at s1 r1 hz, q ρ1 H1 (Ext.refl _ _) s1⟩
theorem dt_not {e : Expr} {pos : Pos} {m : Ev → M Bool} (he : PT X e (dnB (kf X) xw m)) : PT X (.UnaryOp .Not e pos) (dnB (kf X) xw (fun env => do let b ← m env; pure (!b))) :=
  PT.mono (pt_not he) fun σ H Q ⟨B, ρ, h, env, s, er, q⟩ => dnB_seq s er q fun x h1 ρ1 H1 e1 s1 er1 q => by
    rw [pure_eq] at q
    exact q ρ1 H1 (Ext.refl _ _) s1
theorem d_and1 {e : Expr} {pos : Pos} {op : BoolOp} {m : Ev → M PV} {fr : Bool} (he : PE X e (dn (kf X) xw m fr)) : PE X (.BoolOp op [e] pos) (dn (kf X) xw m false) :=
  PE.mono (pe_one he) fun σ H Q ⟨B, ρ, h, env, s, er, q⟩ => ⟨B, ρ, h, env, s, er, q.imp fun x h1 ρ1 H1 e1 s1 q v r _ => q v r (fun a => by cases a)⟩
def boA (a : Bool) : BoolOp := if a then .And else .Or
theorem d_boo {a : Bool} {e f : Expr} {rest : List Expr} {pos : Pos} {m ms : Ev → M PV} {fr fs : Bool} (he : PE X e (dn (kf X) xw m fr)) (hs : PE X (.BoolOp (boA a) (f :: rest) pos) (dn (kf X) xw ms fs)) :
    PE X (.BoolOp (boA a) (e :: f :: rest) pos) (dn (kf X) xw (fun env => do
      let v ← m env
      let b ← fun h => lift (Y.truthy h v) h
      if b = a then ms env else pure v) false) := by
  cases a with
  | true =>
    refine PE.mono (pe_andT he hs) fun σ H Q ⟨B, ρ, h, env, s, er, q⟩ => dn_seq s er q fun x h1 ρ1 H1 v e1 s1 er1 r1 fv q => ?_
    have q : Post (kf X) B (xw σ) ρ1 H1 (lift (Y.truthy h1 x) h1) _ := q.bind
    cases hz : Y.truthy h1 x with
    | none => rw [hz] at q; exact q.elim
    | some b =>
      rw [hz] at q
      refine ⟨b, tru_at s1 r1 hz, ?_⟩
      have q := q ρ1 H1 (Ext.refl _ _) s1
      cases b with
      | true =>
        rw [if_pos rfl] at q ⊢
        exact dn_last s e1 s1 er1 q (fun a => by cases a)
      | false =>
        rw [if_neg Bool.false_ne_true] at q ⊢
        rw [pure_eq] at q
        exact q ρ1 H1 (Ext.refl _ _) s1 v r1 (fun a => by cases a)
  | false =>
    refine PE.mono (pe_orT he hs) fun σ H Q ⟨B, ρ, h, env, s, er, q⟩ => dn_seq s er q fun x h1 ρ1 H1 v e1 s1 er1 r1 fv q => ?_
    have q : Post (kf X) B (xw σ) ρ1 H1 (lift (Y.truthy h1 x) h1) _ := q.bind
    cases hz : Y.truthy h1 x with
    | none => rw [hz] at q; exact q.elim
    | some b =>
      rw [hz] at q
      refine ⟨b, tru_at s1 r1 hz, ?_⟩
      have q := q ρ1 H1 (Ext.refl _ _) s1
      cases b with
      | true =>
        rw [if_pos rfl]
        rw [if_neg (by decide), pure_eq] at q
        exact q ρ1 H1 (Ext.refl _ _) s1 v r1 (fun a => by cases a)
      | false =>
        rw [if_neg Bool.false_ne_true]
        rw [if_pos rfl] at q
        exact dn_last s e1 s1 er1 q (fun a => by cases a)
theorem dt_boo1 {a : Bool} {e : Expr} {pos : Pos} {m : Ev → M Bool} (he : PT X e (dnB (kf X) xw m)) : PW X (.BoolOp (boA a) [e] pos) (dnB (kf X) xw (fun env => do let b ← m env; if b = a then pure a else pure b)) := by
  have f : ∀ σ H Q, dnB (kf X) xw (fun env => do let b ← m env; if b = a then pure a else pure b) σ H Q → dnB (kf X) xw m σ H Q := fun σ H Q ⟨B, ρ, h, env, s, er, q⟩ => dnB_seq s er q fun x h1 ρ1 H1 e1 s1 er1 q => by
    by_cases hx : x = a
    · rw [if_pos hx, pure_eq] at q
      rw [hx]
      exact q ρ1 H1 (Ext.refl _ _) s1
    · rw [if_neg hx, pure_eq] at q
      exact q ρ1 H1 (Ext.refl _ _) s1
  cases a with
  | true => exact PW.mono (pw_and1 he) f
  | false => exact PW.mono (pw_or1 he) f
theorem dt_boo {a : Bool} {e f : Expr} {rest : List Expr} {pos : Pos} {m ms : Ev → M Bool} (he : PT X e (dnB (kf X) xw m)) (hs : PW X (.BoolOp (boA a) (f :: rest) pos) (dnB (kf X) xw ms)) :
    PW X (.BoolOp (boA a) (e :: f :: rest) pos) (dnB (kf X) xw (fun env => do let b ← m env; if b = a then ms env else pure b)) := by
  cases a with
  | true =>
    refine PW.mono (pw_and he hs) fun σ H Q ⟨B, ρ, h, env, s, er, q⟩ => dnB_seq s er q fun x h1 ρ1 H1 e1 s1 er1 q => ?_
    cases x with
    | true => rw [if_pos rfl] at q ⊢; exact ⟨B, ρ1, h1, env, s1, er1, q⟩
    | false =>
      rw [if_neg Bool.false_ne_true] at q ⊢
      rw [pure_eq] at q
      exact q ρ1 H1 (Ext.refl _ _) s1
  | false =>
    refine PW.mono (pw_or he hs) fun σ H Q ⟨B, ρ, h, env, s, er, q⟩ => dnB_seq s er q fun x h1 ρ1 H1 e1 s1 er1 q => ?_
    cases x with
    | true =>
      rw [if_pos rfl]
      rw [if_neg (by decide), pure_eq] at q
      exact q ρ1 H1 (Ext.refl _ _) s1
    | false =>
      rw [if_neg Bool.false_ne_true]
      rw [if_pos rfl] at q
      exact ⟨B, ρ1, h1, env, s1, er1, q⟩
theorem d_not {e : Expr} {pos : Pos} {m : Ev → M PV} {fr : Bool} (he : PE X e (dn (kf X) xw m fr)) : PE X (.UnaryOp .Not e pos) (dn (kf X) xw (fun env => do
      let v ← m env
      let b ← fun h => lift (Y.truthy h v) h
      pure (.bl (!b))) false) :=
  PE.mono (pe_notT he) fun σ H Q ⟨B, ρ, h, env, s, er, q⟩ => dn_seq s er q fun x h1 ρ1 H1 v e1 s1 er1 r1 _ q => by
    have q : Post (kf X) B (xw σ) ρ1 H1 (lift (Y.truthy h1 x) h1) _ := q.bind
    cases hz : Y.truthy h1 x with
    | none => rw [hz] at q; exact q.elim
    | some b =>
      rw [hz] at q
      have q := q ρ1 H1 (Ext.refl _ _) s1
      exact ⟨b, tru_at s1 r1 hz, q ρ1 H1 (Ext.refl _ _) s1 _ Rel.bl_mk (fun a => by cases a)⟩
theorem d_ite {c a b : Expr} {pos : Pos} {mc : Ev → M Bool} {ma mb : Ev → M PV} {fa fb : Bool} (hc : PT X c (dnB (kf X) xw mc)) (ha : PE X a (dn (kf X) xw ma fa)) (hb : PE X b (dn (kf X) xw mb fb)) :
    PE X (.IfExp c a b pos) (dn (kf X) xw (fun env => do if ← mc env then ma env else mb env) false) :=
  PE.mono (pe_ifExp hc ha hb) fun σ H Q ⟨B, ρ, h, env, s, er, q⟩ => dnB_seq s er q fun x h1 ρ1 H1 e1 s1 er1 q => by
    cases x with
    | true => rw [if_pos rfl] at q ⊢; exact dn_last s e1 s1 er1 q (fun a => by cases a)
    | false => rw [if_neg Bool.false_ne_true] at q ⊢; exact dn_last s e1 s1 er1 q (fun a => by cases a)
theorem d_ix {a b : Expr} {pos : Pos} {ma mb : Ev → M PV} {fa fb : Bool} (hr : ∃ k, Room k X.A) (ha : PE X a (dn (kf X) xw ma fa)) (hb : PE X b (dn (kf X) xw mb fb)) (hp : PlainIx b) :
    PE X (.Subscript a b pos) (dn (kf X) xw (fun env => do let x ← ma env; let y ← mb env; fun h => lift (ixV h x y) h) false) := by
  obtain ⟨r, hr1, hk⟩ := ix_ok (X := X) hr
  refine PE.mono (pe_ix hr1 ha hb hp) fun σ H Q ⟨B, ρ, h, env, s, er, q⟩ => dn_seq s er q fun x h1 ρ1 H1 v e1 s1 er1 r1 _ q => dn_seq s1 er1 q fun y h2 ρ2 H2 w e2 s2 er2 r2 _ q => ?_
  have q : Post (kf X) B (xw σ) ρ2 H2 (lift (ixV h2 x y) h2) _ := q
  cases hz : ixV h2 x y with
  | none => rw [hz] at q; exact q.elim
  | some z =>
    rw [hz] at q
    exact hk s2 (r1.mono e2) r2 hz fun u ru => q ρ2 H2 (Ext.refl _ _) s2 u ru (fun a => by cases a)
theorem d_onone : PO X none (dnO (kf X) xw (fun _ => pure none)) :=
  PO.mono po_none fun σ H Q ⟨B, ρ, h, env, s, er, q⟩ => q ρ H (Ext.refl _ _) s
theorem d_osome {e : Expr} {m : Ev → M PV} {fr : Bool} (he : PE X e (dn (kf X) xw m fr)) : PO X (some e) (dnO (kf X) xw (fun env => do let v ← m env; lift ((asInt v).map some))) :=
  PO.mono (po_some he) fun σ H Q ⟨B, ρ, h, env, s, er, q⟩ => dn_seq s er q fun x h1 ρ1 H1 v e1 s1 er1 r1 _ q => by
    cases x <;> try exact q.elim
    rename_i i _
    exact ⟨i, r1.int_inv, q ρ1 H1 (Ext.refl _ _) s1⟩
theorem d_sl {a : Expr} {lo hi : Option Expr} {pos p2 : Pos} {ma : Ev → M PV} {ml mh : Ev → M (Option Int)} {fa : Bool} (ha : PE X a (dn (kf X) xw ma fa)) (hl : PO X lo (dnO (kf X) xw ml)) (hh : PO X hi (dnO (kf X) xw mh)) :
    PE X (.Subscript a (.Slice lo hi none p2) pos) (dn (kf X) xw (fun env => do
      let x ← ma env
      let l ← ml env
      let u ← mh env
      fun h => lift (slV h x l u) h) true) := by
  obtain ⟨r, hr1, hk⟩ := sl_ok (X := X)
  refine PE.mono (pe_slice hr1 ha hl hh) fun σ H Q ⟨B, ρ, h, env, s, er, q⟩ => dn_seq s er q fun x h1 ρ1 H1 v e1 s1 er1 r1 _ q => dnO_seq s1 er1 q fun l h2 ρ2 H2 e2 s2 er2 q => dnO_seq s2 er2 q fun u h3 ρ3 H3 e3 s3 er3 q => ?_
  have q : Post (kf X) B (xw σ) ρ3 H3 (lift (slV h3 x l u) h3) _ := q
  cases hz : slV h3 x l u with
  | none => rw [hz] at q; exact q.elim
  | some z =>
    rw [hz] at q
    refine hk s3 ((r1.mono e2).mono e3) hz fun ρ' H' w e' s' ru fu => q ρ' H' e' s' w ru fun _ il a ea => ?_
    exact (fu il a ea).imp (s.fresh_back s3 ((e1.trans e2).trans e3)) id
end
end Y

/-! K4c: what is walked; comprehensions -/
namespace Y
open PySem PySem.Spec PyProof.Rows L2

section
variable {X : Cx} {xw : L2.St → XW} {B B' : Addr → Prop} {ρ : List Addr} {H H' : Hp} {h : Hh}
/-! fewer are off limits -/
mutual
theorem Rel.less (hB : ∀ a, B a → B' a) : ∀ (p : PV) (v : V), Rel (kf X) B' ρ H p v → Rel (kf X) B ρ H p v
  | .non, v, r => by simpa only [Rel] using r
  | .bl b, v, r => by simpa only [Rel] using r
  | .int i, v, r => by simpa only [Rel] using r
  | .str x, v, r => by simpa only [Rel] using r
  | .ref i, v, r => by simpa only [Rel] using r
  | .tup l, v, r => by
    obtain ⟨a, vs, rfl, f, z, rs⟩ := r.tup_inv
    simp only [Rel]
    exact ⟨a, vs, rfl, f, z, Rels.less hB l vs rs⟩
  | .lst l, v, r => by
    obtain ⟨a, vs, rfl, f, z, rs⟩ := r.lst_inv
    simp only [Rel]
    exact ⟨a, vs, rfl, ⟨f.1, f.2.1, fun b => f.2.2 (hB a b)⟩, z, Rels.less hB l vs rs⟩
  | .dct ks ws, v, r => by
    obtain ⟨a, kvs, rfl, f, z, k, rs⟩ := r.dct_inv
    simp only [Rel]
    exact ⟨a, kvs, rfl, ⟨f.1, f.2.1, fun b => f.2.2 (hB a b)⟩, z, k, Rels.less hB ws _ rs⟩
  | .scr l, v, r => by
    obtain ⟨a, vs, rfl, f, z, rs⟩ := r.scr_inv
    simp only [Rel]
    exact ⟨a, vs, rfl, f.imp (fun ⟨o, f⟩ => ⟨o, f.1, f.2.1, fun b => f.2.2 (hB a b)⟩) id, z, Rels.less hB l vs rs⟩
theorem Rels.less (hB : ∀ a, B a → B' a) : ∀ (p : List PV) (v : List V), Rels (kf X) B' ρ H p v → Rels (kf X) B ρ H p v
  | [], v, r => by rw [r.nil_inv]; exact Rels.nil
  | x :: xs, v, r => by
    obtain ⟨w, ws, rfl, a, b⟩ := r.cons_inv
    exact Rels.cons (Rel.less hB x w a) (Rels.less hB xs ws b)
end
/-- the heap otherwise, where it does not matter -/
structure Alike (B B' : Addr → Prop) (ρ : List Addr) (H H' : Hp) : Prop where
  frz : ∀ a o, H a = some o → a ∉ ρ → ¬ B a → H' a = some o ∧ ¬ B' a
  tup : ∀ a vs, TupK H a vs → TupK H' a vs
mutual
theorem Rel.alike (al : Alike B B' ρ H H') : ∀ (p : PV) (v : V), Rel (kf X) B ρ H p v → Rel (kf X) B' ρ H' p v
  | .non, v, r => by simpa only [Rel] using r
  | .bl b, v, r => by simpa only [Rel] using r
  | .int i, v, r => by simpa only [Rel] using r
  | .str x, v, r => by simpa only [Rel] using r
  | .ref i, v, r => by simpa only [Rel] using r
  | .tup l, v, r => by
    obtain ⟨a, vs, rfl, f, z, rs⟩ := r.tup_inv
    simp only [Rel]
    exact ⟨a, vs, rfl, f.imp (al.tup a vs) id, z, Rels.alike al l vs rs⟩
  | .lst l, v, r => by
    obtain ⟨a, vs, rfl, f, z, rs⟩ := r.lst_inv
    simp only [Rel]
    have q := al.frz a _ f.1 f.2.1 f.2.2
    exact ⟨a, vs, rfl, ⟨q.1, f.2.1, q.2⟩, z, Rels.alike al l vs rs⟩
  | .dct ks ws, v, r => by
    obtain ⟨a, kvs, rfl, f, z, k, rs⟩ := r.dct_inv
    simp only [Rel]
    have q := al.frz a _ f.1 f.2.1 f.2.2
    exact ⟨a, kvs, rfl, ⟨q.1, f.2.1, q.2⟩, z, k, Rels.alike al ws _ rs⟩
  | .scr l, v, r => by
    obtain ⟨a, vs, rfl, f, z, rs⟩ := r.scr_inv
    simp only [Rel]
    refine ⟨a, vs, rfl, f.imp (fun ⟨o, f⟩ => ?_) id, z, Rels.alike al l vs rs⟩
    have q := al.frz a _ f.1 f.2.1 f.2.2
    exact ⟨o, q.1, f.2.1, q.2⟩
theorem Rels.alike (al : Alike B B' ρ H H') : ∀ (p : List PV) (v : List V), Rels (kf X) B ρ H p v → Rels (kf X) B' ρ H' p v
  | [], v, r => by rw [r.nil_inv]; exact Rels.nil
  | x :: xs, v, r => by
    obtain ⟨w, ws, rfl, a, b⟩ := r.cons_inv
    exact Rels.cons (Rel.alike al x w a) (Rels.alike al xs ws b)
end
theorem ObR.alike {a : Addr} {o : Ob} (al : Alike B B' ρ H H') (k : H' a = H a) (q : ObR (kf X) B ρ H a o) : ObR (kf X) B' ρ H' a o := by
  cases o with
  | lst xs => obtain ⟨vs, r, z, q⟩ := q; exact ⟨vs, k.trans r, z, q.alike al⟩
  | dct ks ws => obtain ⟨kvs, r, z, k', q⟩ := q; exact ⟨kvs, k.trans r, z, k', q.alike al⟩
theorem SR.alike (s : SR (kf X) B ρ h H) (al : Alike B B' ρ H H') (k : ∀ a ∈ ρ, H' a = H a) (b : ∀ a, B' a → a ∉ ρ ∧ ∃ o, H' a = some o) : SR (kf X) B' ρ h H' :=
  ⟨s.len, s.nd, b, fun i o a e r => (s.ob i o a e r).alike al (k a (List.mem_of_getElem? r))⟩
theorem EnvR.alike {env : Ev} {σ : L2.St} (r : EnvR (kf X) B ρ H env σ) (al : Alike B B' ρ H H') : EnvR (kf X) B' ρ H' env σ :=
  ⟨r.1, fun i p e => let ⟨v, a, b⟩ := r.2 i p e; ⟨v, a, b.alike al⟩⟩
/-- the list under construction -/
def wD (B : Addr → Prop) (D : Addr) : Addr → Prop := fun a => B a ∨ a = D
theorem alike_new {D : Addr} {o : HO} (f : H D = none) : Alike B (wD B D) ρ H (upd H D o) where
  frz := fun a u e n b => ⟨by rw [upd_ne (ne_of_none e f)]; exact e, fun q => by
    rcases q with q | q
    · exact b q
    · exact ne_of_none e f q⟩
  tup := fun a vs e => e.new f
theorem alike_app {D : Addr} {acc : List V} {o : HO} (f : H D = some (.lst acc)) : Alike (wD B D) (wD B D) ρ H (upd H D o) where
  frz := fun a u e n b => ⟨by rw [upd_ne (fun q => b (.inr q))]; exact e, b⟩
  tup := fun a vs e => e.ne (by rintro rfl; obtain ⟨_, _, _, e⟩ := e; rw [f] at e; cases e)

/-- as Ext, where it is not off limits -/
structure ExtW (B : Addr → Prop) (ρ : List Addr) (H : Hp) (ρ' : List Addr) (H' : Hp) : Prop where
  pre : ∃ t, ρ' = ρ ++ t
  keep : ∀ a o, H a = some o → a ∉ ρ → ¬ B a → H' a = some o ∧ a ∉ ρ'
  tup : ∀ a vs, TupK H a vs → TupK H' a vs
theorem Ext.w {B : Addr → Prop} {ρ ρ' : List Addr} {H H' : Hp} (e : Ext ρ H ρ' H') : ExtW B ρ H ρ' H' := ⟨e.pre, fun a o q n _ => e.keep a o q n, e.tup⟩
theorem ExtW.trans {B : Addr → Prop} {ρ H ρ1 H1 ρ2 H2} (a : ExtW B ρ H ρ1 H1) (b : ExtW B ρ1 H1 ρ2 H2) : ExtW B ρ H ρ2 H2 := by
  refine ⟨?_, fun c o h n nb => ?_, fun c vs h => b.tup c vs (a.tup c vs h)⟩
  · obtain ⟨t, rfl⟩ := a.pre
    obtain ⟨u, rfl⟩ := b.pre
    exact ⟨t ++ u, by simp⟩
  · obtain ⟨h1, n1⟩ := a.keep c o h n nb
    exact b.keep c o h1 n1 nb
theorem ExtW.get {B : Addr → Prop} {ρ H ρ' H'} (e : ExtW B ρ H ρ' H') {i : Nat} {a : Addr} (h : ρ[i]? = some a) : ρ'[i]? = some a := by
  obtain ⟨t, rfl⟩ := e.pre
  rw [List.getElem?_append_left (List.getElem?_eq_some_iff.mp h).1]
  exact h
mutual
theorem Rel.monoW {X : Cx} {B : Addr → Prop} {ρ ρ' : List Addr} {H H' : Hp} (e : ExtW B ρ H ρ' H') : ∀ (p : PV) (v : V), Rel (kf X) B ρ H p v → Rel (kf X) B ρ' H' p v
  | .non, v, r => by simpa only [Rel] using r
  | .bl b, v, r => by simpa only [Rel] using r
  | .int i, v, r => by simpa only [Rel] using r
  | .str x, v, r => by simpa only [Rel] using r
  | .ref i, v, r => by
    simp only [Rel] at r ⊢
    obtain ⟨a, q, f⟩ := r
    exact ⟨a, e.get q, f⟩
  | .tup l, v, r => by
    obtain ⟨a, vs, rfl, f, z, rs⟩ := r.tup_inv
    simp only [Rel]
    exact ⟨a, vs, rfl, f.imp (e.tup a vs) id, z, Rels.monoW e l vs rs⟩
  | .lst l, v, r => by
    obtain ⟨a, vs, rfl, f, z, rs⟩ := r.lst_inv
    simp only [Rel]
    have q := e.keep a _ f.1 f.2.1 f.2.2
    exact ⟨a, vs, rfl, ⟨q.1, q.2, f.2.2⟩, z, Rels.monoW e l vs rs⟩
  | .dct ks ws, v, r => by
    obtain ⟨a, kvs, rfl, f, z, k, rs⟩ := r.dct_inv
    simp only [Rel]
    have q := e.keep a _ f.1 f.2.1 f.2.2
    exact ⟨a, kvs, rfl, ⟨q.1, q.2, f.2.2⟩, z, k, Rels.monoW e ws _ rs⟩
  | .scr l, v, r => by
    obtain ⟨a, vs, rfl, f, z, rs⟩ := r.scr_inv
    simp only [Rel]
    refine ⟨a, vs, rfl, f.imp (fun ⟨o, f⟩ => ?_) id, z, Rels.monoW e l vs rs⟩
    have q := e.keep a _ f.1 f.2.1 f.2.2
    exact ⟨o, q.1, q.2, f.2.2⟩
theorem Rels.monoW {X : Cx} {B : Addr → Prop} {ρ ρ' : List Addr} {H H' : Hp} (e : ExtW B ρ H ρ' H') : ∀ (p : List PV) (v : List V), Rels (kf X) B ρ H p v → Rels (kf X) B ρ' H' p v
  | [], v, r => by rw [r.nil_inv]; exact Rels.nil
  | x :: xs, v, r => by
    obtain ⟨w, ws, rfl, a, b⟩ := r.cons_inv
    exact Rels.cons (Rel.monoW e x w a) (Rels.monoW e xs ws b)
end
/-- a pair that a walk lays -/
def RelY (K : KF) (B : Addr → Prop) (ρ : List Addr) (H : Hp) (p : PV) (v : V) : Prop := ∃ l a vs, p = .tup l ∧ v = .ref a ∧ H a = some (.tup vs) ∧ vs.length ≤ SZ ∧ Rels K B ρ H l vs
def RelP (py : Bool) (K : KF) (B : Addr → Prop) (ρ : List Addr) (H : Hp) (p : PV) (v : V) : Prop := if py = true then RelY K B ρ H p v else Rel K B ρ H p v
theorem RelP.of {K : KF} {B : Addr → Prop} {ρ : List Addr} {H : Hp} {p : PV} {v : V} (r : Rel K B ρ H p v) : RelP false K B ρ H p v := r
/-- a walk over the items l while g stands; py: it lays pairs -/
structure WalkOk (K : KF) (py : Bool) (J : It) (B : Addr → Prop) (l : List PV) (g : Hh → Bool) (ρ0 : List Addr) (H0 : Hp) : Prop where
  small : l.length ≤ SZ
  go : ∀ ρ h H (i : Nat) x, ExtW B ρ0 H0 ρ H → SR K B ρ h H → g h = true → l[i]? = some x → J.go i H
  yld : ∀ ρ h H (i : Nat) x v H', ExtW B ρ0 H0 ρ H → SR K B ρ h H → g h = true → l[i]? = some x → J.yld i H v H' → Ext ρ H ρ H' ∧ SR K B ρ h H' ∧ RelP py K B ρ H' x v ∧ ∀ a o, H a = some o → H' a = some o
  stop : ∀ ρ h H, ExtW B ρ0 H0 ρ H → SR K B ρ h H → g h = true → J.stop l.length H
def dnI (K : KF) (xw : L2.St → XW) (py : Bool) (m : Ev → M (List PV × (Hh → Bool))) : TI := fun σ H R => ∃ B ρ h env, SR K B ρ h H ∧ EnvR K B ρ H env σ ∧ Post K B (xw σ) ρ H (m env h) fun lg _ ρ1 H1 => ∀ J, (∀ B', (∀ a, B a → B' a) → (∀ a, B' a → B a ∨ H1 a = none) → WalkOk K py J B' lg.1 lg.2 ρ1 H1) → R J H1
theorem PI.mono {tg e : Expr} {t t' : TI} (p : PI X tg e t) (hh : ∀ σ H R, t' σ H R → t σ H R) : PI X tg e t' := ⟨fun pins s σ H R I hw => p.run pins s σ H R I (hh σ H R hw)⟩
theorem rangeL_get (a : Int) : ∀ (n i : Nat) (x : PV), (rangeL a n)[i]? = some x → i < n ∧ x = .int (a + i)
  | 0, i, x, h => by simp [rangeL] at h
  | n + 1, 0, x, h => by simp [rangeL] at h; subst h; exact ⟨by omega, by simp⟩
  | n + 1, i + 1, x, h => by
    simp only [rangeL, List.getElem?_cons_succ] at h
    obtain ⟨h1, h2⟩ := rangeL_get (a + 1) n i x h
    exact ⟨by omega, by rw [h2]; congr 1; omega⟩
theorem rangeL_length (a : Int) : ∀ n, (rangeL a n).length = n
  | 0 => rfl
  | n + 1 => by simp [rangeL, rangeL_length (a + 1) n]
theorem rangeC_get (a c : Int) : ∀ (n i : Nat) (x : PV), (rangeC a c n)[i]? = some x → i < n ∧ x = .int (a + (i : Nat) * c)
  | 0, i, x, h => by simp [rangeC] at h
  | n + 1, 0, x, h => by simp [rangeC] at h; subst h; exact ⟨by omega, by simp⟩
  | n + 1, i + 1, x, h => by
    simp only [rangeC, List.getElem?_cons_succ] at h
    obtain ⟨h1, h2⟩ := rangeC_get (a + c) c n i x h
    refine ⟨by omega, ?_⟩
    rw [h2]
    congr 1
    rw [Int.natCast_succ, Int.add_mul]
    omega
theorem rangeC_length (a c : Int) : ∀ n, (rangeC a c n).length = n
  | 0 => rfl
  | n + 1 => by simp [rangeC, rangeC_length (a + c) c n]
theorem enumL_get : ∀ (l : List PV) (k i : Nat) (x : PV), (enumL k l)[i]? = some x → ∃ y, l[i]? = some y ∧ x = .tup [.int ((k + i : Nat) : Int), y]
  | [], k, i, x, h => by simp [enumL] at h
  | y :: l, k, 0, x, h => by simp [enumL] at h; subst h; exact ⟨y, rfl, rfl⟩
  | y :: l, k, i + 1, x, h => by
    simp only [enumL, List.getElem?_cons_succ] at h
    obtain ⟨z, h1, h2⟩ := enumL_get l (k + 1) i x h
    exact ⟨z, by simpa using h1, by rw [h2, show k + 1 + i = k + (i + 1) by omega]⟩
theorem enumL_length : ∀ (l : List PV) (k : Nat), (enumL k l).length = l.length
  | [], _ => rfl
  | y :: l, k => by simp [enumL, enumL_length l (k + 1)]
theorem zipL_get : ∀ (l r : List PV) (i : Nat) (x : PV), (zipL l r)[i]? = some x → ∃ y z, l[i]? = some y ∧ r[i]? = some z ∧ x = .tup [y, z]
  | [], r, i, x, h => by simp [zipL] at h
  | y :: l, [], i, x, h => by simp [zipL] at h
  | y :: l, z :: r, 0, x, h => by simp [zipL] at h; subst h; exact ⟨y, z, rfl, rfl, rfl⟩
  | y :: l, z :: r, i + 1, x, h => by
    simp only [zipL, List.getElem?_cons_succ] at h
    obtain ⟨y', z', h1, h2, h3⟩ := zipL_get l r i x h
    exact ⟨y', z', by simpa using h1, by simpa using h2, h3⟩
theorem zipL_length : ∀ (l r : List PV), (zipL l r).length = min l.length r.length
  | [], r => by simp [zipL]
  | y :: l, [] => by simp [zipL]
  | y :: l, z :: r => by simp [zipL, zipL_length l r]

/-- what a sequence's items are, later on -/
theorem seq_later {x : PV} {l : List PV} {v : V} {ρ1 : List Addr} {H1 : Hp} {h1 : Hh} (s : SR (kf X) B ρ1 h1 H1) (r : Rel (kf X) B ρ1 H1 x v) (e : seqOf h1 x = some l) (hB : ∀ a, B' a → B a ∨ H1 a = none) :
    ∃ a, v = .ref a ∧ l.length ≤ SZ ∧ ((∃ l', x = .tup l') ∧ (∃ vs, SqT X.K H1 a vs) ∧ (∀ ρ h H, ExtW B' ρ1 H1 ρ H → SR (kf X) B' ρ h H → grd x l h = true → ∃ vs, SqT X.K H a vs ∧ Rels (kf X) B' ρ H l vs) ∨
      (∀ l', x ≠ .tup l') ∧ (∃ vs, SqL X.K H1 a vs) ∧ (∀ ρ h H, ExtW B' ρ1 H1 ρ H → SR (kf X) B' ρ h H → grd x l h = true → ∃ vs, SqL X.K H a vs ∧ Rels (kf X) B' ρ H l vs)) := by
  have wk : ∀ {ρ : List Addr} {H : Hp} {p : List PV} {vs : List V}, ExtW B' ρ1 H1 ρ H → Rels (kf X) B ρ1 H1 p vs → Rels (kf X) B' ρ H p vs := by
    intro ρ H p vs e1 r1
    have al : Alike B B' ρ1 H1 H1 := ⟨fun a o q n b => ⟨q, fun b' => by
      rcases hB a b' with z | z
      · exact b z
      · rw [q] at z; cases z⟩, fun _ _ q => q⟩
    exact Rels.monoW e1 _ _ (r1.alike al)
  have nB' : ∀ {a : Addr} {o : HO}, Fz B ρ1 H1 a o → ¬ B' a := fun f b => by
    rcases hB _ b with z | z
    · exact f.2.2 z
    · rw [f.1] at z; cases z
  cases x <;> simp only [seqOf] at e <;> try contradiction
  · cases e
    obtain ⟨a, vs, rfl, f, z, rs⟩ := r.tup_inv
    refine ⟨a, rfl, by rw [rs.length]; exact z, .inl ⟨⟨l, rfl⟩, ⟨vs, tup_sq f⟩, fun ρ h H e1 s1 _ => ⟨vs, tup_sq (f.imp (e1.tup a vs) id), wk e1 rs⟩⟩⟩
  · cases e
    obtain ⟨a, vs, rfl, f, z, rs⟩ := r.lst_inv
    exact ⟨a, rfl, by rw [rs.length]; exact z, .inr ⟨(fun _ q => by cases q), ⟨vs, SqL.of f.1⟩, fun ρ h H e1 s1 _ => ⟨vs, SqL.of (e1.keep _ _ f.1 f.2.1 (nB' f)).1, wk e1 rs⟩⟩⟩
  · rename_i n
    obtain ⟨a, ra, rfl⟩ := r.ref_inv
    have later : ∀ ρ h H, ExtW B' ρ1 H1 ρ H → SR (kf X) B' ρ h H → grd (.ref n) l h = true → ∃ vs, SqL X.K H a vs ∧ Rels (kf X) B' ρ H l vs := by
      intro ρ h H e1 s1 g
      unfold grd at g
      obtain ⟨a', ra', vs, q, z, rs⟩ := s1.at (of_decide_eq_true g)
      rw [e1.get ra] at ra'; cases ra'
      exact ⟨vs, SqL.of q, rs⟩
    split at e <;> try contradiction
    · cases e
      rename_i xs hx
      obtain ⟨a', ra', vs, q, z, rs⟩ := s.at hx
      rw [ra] at ra'; cases ra'
      exact ⟨a, rfl, by rw [rs.length]; exact z, .inr ⟨(fun _ q => by cases q), ⟨vs, SqL.of q⟩, later⟩⟩
  · cases e
    obtain ⟨a, vs, rfl, f, z, rs⟩ := r.scr_inv
    exact ⟨a, rfl, by rw [rs.length]; exact z, .inr ⟨(fun _ q => by cases q), ⟨vs, scr_sq f⟩, fun ρ h H e1 s1 _ => ⟨vs, by
      rcases f with ⟨o, f⟩ | f
      · exact .inl (.inr ⟨o, (e1.keep _ _ f.1 f.2.1 (nB' f)).1⟩)
      · exact .inr f, wk e1 rs⟩⟩⟩
theorem d_iseq {tg e : Expr} {m : Ev → M PV} {fr : Bool} (he : PE X e (dn (kf X) xw m fr)) : PI X tg e (dnI (kf X) xw false (fun env => do
      let x ← m env
      let l ← fun h => lift (iterOf h x) h
      pure (l, grd x l))) :=
  PI.mono (pi_seq he) fun σ H R ⟨B, ρ, h, env, s, er, q⟩ => dn_seq s er q fun x h1 ρ1 H1 v e1 s1 er1 r1 _ q => by
    have q : Post (kf X) B (xw σ) ρ1 H1 (lift (iterOf h1 x) h1) _ := q.bind
    cases hz : iterOf h1 x with
    | none => rw [hz] at q; exact q.elim
    | some l =>
      rw [hz] at q
      have q := Post.pure (a := (l, grd x l)) (q ρ1 H1 (Ext.refl _ _) s1) s1
      obtain ⟨a, rfl, hsm, hcase⟩ := seq_later (B' := B) s1 r1 hz (fun a b => .inl b)
      refine ⟨a, rfl, ?_⟩
      rcases hcase with ⟨⟨l', rfl⟩, hv, _⟩ | ⟨hnt, hv, _⟩
      · refine .inr ⟨hv, q _ fun B' hb1 hb2 => ?_⟩
        obtain ⟨a2, e2, _, hcase⟩ := seq_later (B' := B') s1 r1 hz hb2
        cases e2
        rcases hcase with ⟨_, _, lt⟩ | ⟨hn, _⟩
        · refine ⟨hsm, fun ρ h H i x e1 s1 g hi => ?_, fun ρ h H i x v H' e1 s1 g hi y => ?_, fun ρ h H e1 s1 g => ?_⟩
          · obtain ⟨vs, q1, q2⟩ := lt ρ h H e1 s1 g
            obtain ⟨w, hw, _⟩ := q2.get hi
            exact ⟨vs, w, q1, hw⟩
          · obtain ⟨vs, q1, q2⟩ := lt ρ h H e1 s1 g
            obtain ⟨w, hw, rw_⟩ := q2.get hi
            obtain ⟨rfl, y⟩ := y
            have := y vs q1
            rw [hw] at this
            cases this
            exact ⟨Ext.refl _ _, s1, rw_, fun _ _ q => q⟩
          · obtain ⟨vs, q1, q2⟩ := lt ρ h H e1 s1 g
            exact ⟨vs, q1, by rw [q2.length]; exact Nat.le_refl _⟩
        · exact absurd rfl (hn l')
      · refine .inl ⟨hv, q _ fun B' hb1 hb2 => ?_⟩
        obtain ⟨a2, e2, _, hcase⟩ := seq_later (B' := B') s1 r1 hz hb2
        cases e2
        rcases hcase with ⟨⟨l', hl'⟩, _⟩ | ⟨_, _, lt⟩
        · exact absurd hl' (hnt l')
        · refine ⟨hsm, fun ρ h H i x e1 s1 g hi => ?_, fun ρ h H i x v H' e1 s1 g hi y => ?_, fun ρ h H e1 s1 g => ?_⟩
          · obtain ⟨vs, q1, q2⟩ := lt ρ h H e1 s1 g
            obtain ⟨w, hw, _⟩ := q2.get hi
            exact ⟨vs, w, q1, hw⟩
          · obtain ⟨vs, q1, q2⟩ := lt ρ h H e1 s1 g
            obtain ⟨w, hw, rw_⟩ := q2.get hi
            obtain ⟨rfl, y⟩ := y
            have := y vs q1
            rw [hw] at this
            cases this
            exact ⟨Ext.refl _ _, s1, rw_, fun _ _ q => q⟩
          · obtain ⟨vs, q1, q2⟩ := lt ρ h H e1 s1 g
            exact ⟨vs, q1, by rw [q2.length]; exact Nat.le_refl _⟩
end
end Y

/-! K4d: enumerate, zip, range; targets; comprehensions -/
namespace Y
open PySem PySem.Spec PyProof.Rows L2

section
variable {X : Cx} {xw : L2.St → XW} {B B' : Addr → Prop} {ρ : List Addr} {H H' : Hp} {h : Hh}
/-- a pair that the walk lays -/
theorem pair_new {T : Addr} {x y : PV} {v w : V} (s : SR (kf X) B ρ h H) (f : H T = none) (a : Rel (kf X) B ρ H x v) (b : Rel (kf X) B ρ H y w) :
    Ext ρ H ρ (upd H T (.tup [v, w])) ∧ SR (kf X) B ρ h (upd H T (.tup [v, w])) ∧ RelY (kf X) B ρ (upd H T (.tup [v, w])) (.tup [x, y]) (.ref T) ∧ ∀ a o, H a = some o → upd H T (.tup [v, w]) a = some o :=
  ⟨Ext.new f, s.new f, ⟨_, _, _, rfl, rfl, upd_same, (by show 2 ≤ SZ; decide), (Rels.cons a (Rels.cons b Rels.nil)).mono (Ext.new f)⟩, fun a o e => by rw [upd_ne (ne_of_none e f)]; exact e⟩
theorem d_ienum {elts : List Expr} {kk : Nat} {tpos p pos : Pos} {e : Expr} {m : Ev → M PV} {fr : Bool} (hg : Gl X "enumerate") (hm : X.mg "enumerate" = none) (hs : starEach [e] X.env = [(false, eval e X.env)]) (he : PE X e (dn (kf X) xw m fr)) :
    PI X (.Tuple elts kk tpos) (.Call (.Name "enumerate" p) [e] [] pos) (dnI (kf X) xw true (fun env => do
      let x ← m env
      let l ← fun h => lift (iterOf h x) h
      pure (enumL 0 l, grd x l))) :=
  PI.mono (pi_enumA hg hm (pa_cons he pa_nil hs) hs) fun σ H R ⟨B, ρ, h, env, s, er, q⟩ => dn_seq s er q fun x h1 ρ1 H1 v e1 s1 er1 r1 _ q => by
    have q : Post (kf X) B (xw σ) ρ1 H1 (lift (iterOf h1 x) h1) _ := q.bind
    cases hz : iterOf h1 x with
    | none => rw [hz] at q; exact q.elim
    | some l =>
      rw [hz] at q
      have q := Post.pure (a := (enumL 0 l, grd x l)) (q ρ1 H1 (Ext.refl _ _) s1) s1
      obtain ⟨a, rfl, hsm, hcase⟩ := seq_later (B' := B) s1 r1 hz (fun a b => .inl b)
      have en : ∀ {B' : Addr → Prop} {ρ : List Addr} {h : Hh} {H : Hp} {vs : List V} {i : Nat} {x : PV} {T : Addr} {w : V}, SR (kf X) B' ρ h H → Rels (kf X) B' ρ H l vs → (enumL 0 l)[i]? = some x → H T = none → vs[i]? = some w →
          Ext ρ H ρ (upd H T (.tup [.int (i : Nat), w])) ∧ SR (kf X) B' ρ h (upd H T (.tup [.int (i : Nat), w])) ∧ RelP true (kf X) B' ρ (upd H T (.tup [.int (i : Nat), w])) x (.ref T) ∧ ∀ a o, H a = some o → upd H T (.tup [.int (i : Nat), w]) a = some o := by
        intro B' ρ h H vs i x T w s1 rs hi hT hw
        obtain ⟨y, hy, rfl⟩ := enumL_get l 0 i x hi
        obtain ⟨w', hw', rw_⟩ := rs.get hy
        rw [hw] at hw'; cases hw'
        rw [Nat.zero_add]
        exact pair_new s1 hT Rel.int_mk rw_
      rcases hcase with ⟨⟨l', rfl⟩, ⟨vs0, hv⟩, _⟩ | ⟨hnt, ⟨vs0, hv⟩, _⟩
      · refine ⟨a, vs0, rfl, .inr ⟨hv, q _ fun B' hb1 hb2 => ?_⟩⟩
        obtain ⟨a2, e2, _, hcase⟩ := seq_later (B' := B') s1 r1 hz hb2
        cases e2
        rcases hcase with ⟨_, _, lt⟩ | ⟨hn, _⟩
        · refine ⟨by rw [enumL_length]; exact hsm, fun ρ h H i x e1 s1 g hi => ?_, fun ρ h H i x v H' e1 s1 g hi y => ?_, fun ρ h H e1 s1 g => ?_⟩
          · obtain ⟨vs, q1, q2⟩ := lt ρ h H e1 s1 g
            obtain ⟨z, hz', rfl⟩ := enumL_get l 0 i x hi
            obtain ⟨w, hw, _⟩ := q2.get hz'
            exact ⟨vs, w, q1, hw⟩
          · obtain ⟨vs, q1, q2⟩ := lt ρ h H e1 s1 g
            obtain ⟨T, w, rfl, hT, rfl, y⟩ := y
            exact en s1 q2 hi hT (y vs q1)
          · obtain ⟨vs, q1, q2⟩ := lt ρ h H e1 s1 g
            exact ⟨vs, q1, by rw [enumL_length, q2.length]⟩
        · exact absurd rfl (hn l')
      · refine ⟨a, vs0, rfl, .inl ⟨hv, q _ fun B' hb1 hb2 => ?_⟩⟩
        obtain ⟨a2, e2, _, hcase⟩ := seq_later (B' := B') s1 r1 hz hb2
        cases e2
        rcases hcase with ⟨⟨l', hl'⟩, _⟩ | ⟨_, _, lt⟩
        · exact absurd hl' (hnt l')
        · refine ⟨by rw [enumL_length]; exact hsm, fun ρ h H i x e1 s1 g hi => ?_, fun ρ h H i x v H' e1 s1 g hi y => ?_, fun ρ h H e1 s1 g => ?_⟩
          · obtain ⟨vs, q1, q2⟩ := lt ρ h H e1 s1 g
            obtain ⟨z, hz', rfl⟩ := enumL_get l 0 i x hi
            obtain ⟨w, hw, _⟩ := q2.get hz'
            exact ⟨vs, w, q1, hw⟩
          · obtain ⟨vs, q1, q2⟩ := lt ρ h H e1 s1 g
            obtain ⟨T, w, rfl, hT, rfl, y⟩ := y
            exact en s1 q2 hi hT (y vs q1)
          · obtain ⟨vs, q1, q2⟩ := lt ρ h H e1 s1 g
            exact ⟨vs, q1, by rw [enumL_length, q2.length]; exact Nat.le_refl _⟩
theorem rng1V_inv {x : PV} {l : List PV} (h : rng1V x = some l) : ∃ j : Int, x = .int j ∧ -(2 ^ 62) ≤ j ∧ j < 2 ^ 62 ∧ j.toNat ≤ SZ ∧ l = rangeL 0 j.toNat := by
  unfold rng1V at h
  split at h <;> try contradiction
  split at h <;> try contradiction
  rename_i j hj
  cases h
  rw [Bool.and_eq_true] at hj
  have hj1 := of_decide_eq_true hj.1
  exact ⟨j, rfl, hj1.1, hj1.2, of_decide_eq_true hj.2, rfl⟩
theorem rng2V_inv {x y : PV} {l : List PV} (h : rng2V x y = some l) : ∃ i j : Int, x = .int i ∧ y = .int j ∧ (-(2 ^ 62) ≤ i ∧ i < 2 ^ 62 ∧ -(2 ^ 62) ≤ j ∧ j < 2 ^ 62) ∧ (j - i).toNat ≤ SZ ∧ l = rangeL i (j - i).toNat := by
  unfold rng2V at h
  split at h <;> try contradiction
  split at h <;> try contradiction
  rename_i i j hj
  cases h
  rw [Bool.and_eq_true, Bool.and_eq_true] at hj
  have hj1 := of_decide_eq_true hj.1.1
  have hj2 := of_decide_eq_true hj.1.2
  exact ⟨i, j, rfl, rfl, ⟨hj1.1, hj1.2, hj2.1, hj2.2⟩, of_decide_eq_true hj.2, rfl⟩
theorem rng3V_inv {x y z : PV} {l : List PV} (h : rng3V x y z = some l) : ∃ (i j c : Int) (n : Nat), x = .int i ∧ y = .int j ∧ z = .int c ∧ RgC i j c n ∧ n ≤ SZ ∧ l = rangeC i c n := by
  unfold rng3V at h
  split at h <;> try contradiction
  split at h <;> try contradiction
  rename_i i j c hj
  cases h
  simp only [Bool.and_eq_true, decide_eq_true_eq] at hj
  obtain ⟨⟨⟨hc, hsm⟩, hn⟩, hsz⟩ := hj
  exact ⟨i, j, c, _, rfl, rfl, rfl, ⟨hc.1, hc.2, hsm, hn⟩, hsz, rfl⟩
theorem d_itxt {tg e : Expr} {m : Ev → M PV} {fr : Bool} (he : PE X e (dn (kf X) xw m fr)) : PI X tg e (dnI (kf X) xw false (fun env => do
      let x ← m env
      let l ← lift (txtL x)
      pure (l, fun _ => true))) :=
  PI.mono (pi_str he) fun σ H R ⟨B, ρ, h, env, s, er, q⟩ => dn_seq s er q fun x h1 ρ1 H1 v e1 s1 er1 r1 _ q => by
    have q := q.bind
    cases hz : txtL x with
    | none => rw [hz] at q; exact q.elim
    | some l =>
      rw [hz] at q
      have q := Post.pure (a := (l, fun _ => true)) (q ρ1 H1 (Ext.refl _ _) s1) s1
      obtain ⟨z, rfl⟩ : ∃ z, x = .str z := by
        cases x <;> first | exact ⟨_, rfl⟩ | (simp [txtL] at hz)
      simp only [txtL] at hz
      split at hz <;> try contradiction
      rename_i hsz
      cases hz
      have get : ∀ {i : Nat} {y : PV}, (z.cps.toList.map fun c => PV.str ⟨#[c]⟩)[i]? = some y → ∃ c, z.cps[i]? = some c ∧ y = .str ⟨#[c]⟩ := by
        intro i y hy
        rw [List.getElem?_map, Array.getElem?_toList] at hy
        cases hc : z.cps[i]? with
        | none => rw [hc] at hy; cases hy
        | some c => rw [hc] at hy; cases hy; exact ⟨c, rfl, rfl⟩
      refine ⟨z, by rw [r1.str_inv], q _ fun B' _ _ => ⟨by rw [List.length_map]; simpa using hsz, fun ρ h H i y _ _ _ hi => ?_, fun ρ h H i y v H' _ s1 _ hi yy => ?_, fun ρ h H _ _ _ => ?_⟩⟩
      · obtain ⟨c, hc, _⟩ := get hi
        exact (Array.getElem?_eq_some_iff.mp hc).1
      · obtain ⟨c, hc, rfl⟩ := get hi
        obtain ⟨rfl, c', hc', rfl⟩ := yy
        rw [hc] at hc'
        cases hc'
        exact ⟨Ext.refl _ _, s1, RelP.of Rel.str_mk, fun _ _ q => q⟩
      · show z.cps.size ≤ _
        rw [List.length_map]
        simp
theorem d_ietxt {elts : List Expr} {kk : Nat} {tpos p pos : Pos} {e : Expr} {m : Ev → M PV} {fr : Bool} (hg : Gl X "enumerate") (hm : X.mg "enumerate" = none) (hs : starEach [e] X.env = [(false, eval e X.env)]) (he : PE X e (dn (kf X) xw m fr)) :
    PI X (.Tuple elts kk tpos) (.Call (.Name "enumerate" p) [e] [] pos) (dnI (kf X) xw true (fun env => do
      let x ← m env
      let l ← lift (txtL x)
      pure (enumL 0 l, fun _ => true))) :=
  PI.mono (pi_enumS hg hm (pa_cons he pa_nil hs) hs) fun σ H R ⟨B, ρ, h, env, s, er, q⟩ => dn_seq s er q fun x h1 ρ1 H1 v e1 s1 er1 r1 _ q => by
    have q := q.bind
    cases hz : txtL x with
    | none => rw [hz] at q; exact q.elim
    | some l =>
      rw [hz] at q
      have q := Post.pure (a := (enumL 0 l, fun _ => true)) (q ρ1 H1 (Ext.refl _ _) s1) s1
      obtain ⟨z, rfl⟩ : ∃ z, x = .str z := by
        cases x <;> first | exact ⟨_, rfl⟩ | (simp [txtL] at hz)
      simp only [txtL] at hz
      split at hz <;> try contradiction
      rename_i hsz
      cases hz
      have get : ∀ {i : Nat} {y : PV}, (z.cps.toList.map fun c => PV.str ⟨#[c]⟩)[i]? = some y → ∃ c, z.cps[i]? = some c ∧ y = .str ⟨#[c]⟩ := by
        intro i y hy
        rw [List.getElem?_map, Array.getElem?_toList] at hy
        cases hc : z.cps[i]? with
        | none => rw [hc] at hy; cases hy
        | some c => rw [hc] at hy; cases hy; exact ⟨c, rfl, rfl⟩
      refine ⟨z, by rw [r1.str_inv], q _ fun B' _ _ => ⟨by rw [enumL_length, List.length_map]; simpa using hsz, fun ρ h H i y _ _ _ hi => ?_, fun ρ h H i y v H' _ s1 _ hi yy => ?_, fun ρ h H _ _ _ => ?_⟩⟩
      · obtain ⟨w, hw, _⟩ := enumL_get _ 0 i y hi
        obtain ⟨c, hc, _⟩ := get hw
        exact (Array.getElem?_eq_some_iff.mp hc).1
      · obtain ⟨w, hw, rfl⟩ := enumL_get _ 0 i y hi
        obtain ⟨c, hc, rfl⟩ := get hw
        obtain ⟨T, c', rfl, hT, rfl, hc'⟩ := yy
        rw [hc] at hc'
        cases hc'
        rw [Nat.zero_add]
        exact pair_new s1 hT Rel.int_mk Rel.str_mk
      · show z.cps.size = _
        rw [enumL_length, List.length_map]
        simp
theorem d_irng1 {tg e : Expr} {p pos : Pos} {m : Ev → M PV} {fr : Bool} (hg : Gl X "range") (hm : X.mg "range" = none) (hs : starEach [e] X.env = [(false, eval e X.env)]) (he : PE X e (dn (kf X) xw m fr)) :
    PI X tg (.Call (.Name "range" p) [e] [] pos) (dnI (kf X) xw false (fun env => do
      let x ← m env
      let l ← lift (rng1V x)
      pure (l, fun _ => true))) :=
  PI.mono (pi_range1 hg hm (pa_cons he pa_nil hs) hs) fun σ H R ⟨B, ρ, h, env, s, er, q⟩ => dn_seq s er q fun x h1 ρ1 H1 v e1 s1 er1 r1 _ q => by
    have q := q.bind
    cases hz : rng1V x with
    | none => rw [hz] at q; exact q.elim
    | some l =>
      rw [hz] at q
      have q := Post.pure (a := (l, fun _ => true)) (q ρ1 H1 (Ext.refl _ _) s1) s1
      obtain ⟨j, rfl, hj1, hj2, hsz, rfl⟩ := rng1V_inv hz
      exact ⟨j, by rw [r1.int_inv], hj1, hj2, q _ fun B' _ _ => ⟨by rw [rangeL_length]; exact hsz, fun ρ h H i x _ _ _ hi => (rangeL_get 0 _ i x hi).1, fun ρ h H i x v H' _ s1 _ hi y => by
        obtain ⟨rfl, rfl⟩ := y
        rw [(rangeL_get 0 _ i x hi).2]
        exact ⟨Ext.refl _ _, s1, RelP.of Rel.int_mk, fun _ _ q => q⟩, fun ρ h H _ _ _ => by show j.toNat ≤ (rangeL 0 j.toNat).length; rw [rangeL_length]; exact Nat.le_refl _⟩⟩
theorem d_irng2 {tg e e2 : Expr} {p pos : Pos} {m m2 : Ev → M PV} {fr fr2 : Bool} (hg : Gl X "range") (hm : X.mg "range" = none) (hs : starEach [e, e2] X.env = [(false, eval e X.env), (false, eval e2 X.env)]) (hs2 : starEach [e2] X.env = [(false, eval e2 X.env)])
    (he : PE X e (dn (kf X) xw m fr)) (he2 : PE X e2 (dn (kf X) xw m2 fr2)) :
    PI X tg (.Call (.Name "range" p) [e, e2] [] pos) (dnI (kf X) xw false (fun env => do
      let x ← m env
      let y ← m2 env
      let l ← lift (rng2V x y)
      pure (l, fun _ => true))) :=
  PI.mono (pi_range2 hg hm (pa_cons he (pa_cons he2 pa_nil hs2) (by rw [hs, hs2])) hs hs2) fun σ H R ⟨B, ρ, h, env, s, er, q⟩ => dn_seq s er q fun x h1 ρ1 H1 v e1 s1 er1 r1 _ q => dn_seq s1 er1 q fun y h2 ρ2 H2 w e2 s2 er2 r2 _ q => by
    have q := q.bind
    cases hz : rng2V x y with
    | none => rw [hz] at q; exact q.elim
    | some l =>
      rw [hz] at q
      have q := Post.pure (a := (l, fun _ => true)) (q ρ2 H2 (Ext.refl _ _) s2) s2
      obtain ⟨i, j, rfl, rfl, hj, hsz, rfl⟩ := rng2V_inv hz
      exact ⟨i, j, by rw [r1.int_inv, r2.int_inv], hj, q _ fun B' _ _ => ⟨by rw [rangeL_length]; exact hsz, fun ρ h H k x _ _ _ hi => (rangeL_get i _ k x hi).1, fun ρ h H k x v H' _ s1 _ hi y => by
        obtain ⟨rfl, rfl⟩ := y
        rw [(rangeL_get i _ k x hi).2]
        exact ⟨Ext.refl _ _, s1, RelP.of Rel.int_mk, fun _ _ q => q⟩, fun ρ h H _ _ _ => by show (j - i).toNat ≤ (rangeL i (j - i).toNat).length; rw [rangeL_length]; exact Nat.le_refl _⟩⟩
theorem d_irng3 {tg e e2 e3 : Expr} {p pos : Pos} {m m2 m3 : Ev → M PV} {fr fr2 fr3 : Bool} (hg : Gl X "range") (hm : X.mg "range" = none) (hs : starEach [e, e2, e3] X.env = (false, eval e X.env) :: starEach [e2, e3] X.env) (hs2 : starEach [e2, e3] X.env = (false, eval e2 X.env) :: starEach [e3] X.env) (hs3 : starEach [e3] X.env = (false, eval e3 X.env) :: starEach [] X.env)
    (hpl : (backTo pos (starEach [e2, e3] X.env)).any (·.1) = false) (he : PE X e (dn (kf X) xw m fr)) (he2 : PE X e2 (dn (kf X) xw m2 fr2)) (he3 : PE X e3 (dn (kf X) xw m3 fr3)) :
    PI X tg (.Call (.Name "range" p) [e, e2, e3] [] pos) (dnI (kf X) xw false (fun env => do
      let x ← m env
      let y ← m2 env
      let z ← m3 env
      let l ← lift (rng3V x y z)
      pure (l, fun _ => true))) :=
  PI.mono (pi_range3 hg hm (pa_cons he (pa_cons he2 (pa_cons he3 pa_nil hs3) hs2) hs) hs hpl) fun σ H R ⟨B, ρ, h, env, s, er, q⟩ => dn_seq s er q fun x h1 ρ1 H1 v e1 s1 er1 r1 _ q => dn_seq s1 er1 q fun y h2 ρ2 H2 w e2 s2 er2 r2 _ q => dn_seq s2 er2 q fun z h3 ρ3 H3 u e3 s3 er3 r3 _ q => by
    have q := q.bind
    cases hz : rng3V x y z with
    | none => rw [hz] at q; exact q.elim
    | some l =>
      rw [hz] at q
      have q := Post.pure (a := (l, fun _ => true)) (q ρ3 H3 (Ext.refl _ _) s3) s3
      obtain ⟨i, j, c, n, rfl, rfl, rfl, hrg, hsz, rfl⟩ := rng3V_inv hz
      exact ⟨i, j, c, n, by rw [r1.int_inv, r2.int_inv, r3.int_inv], hrg, q _ fun B' _ _ => ⟨by rw [rangeC_length]; exact hsz, fun ρ h H k x _ _ _ hi => (rangeC_get i c _ k x hi).1, fun ρ h H k x v H' _ s1 _ hi y => by
        obtain ⟨rfl, rfl⟩ := y
        rw [(rangeC_get i c _ k x hi).2]
        exact ⟨Ext.refl _ _, s1, RelP.of Rel.int_mk, fun _ _ q => q⟩, fun ρ h H _ _ _ => by show _ ≤ (rangeC i c _).length; rw [rangeC_length]; exact Nat.le_refl _⟩⟩
theorem rgV_rel (a : Int) (n : Nat) : Rels (kf X) B ρ H (rangeL a n) ((List.range n).map fun i => V.int (a + (i : Nat))) := by
  induction n generalizing a with
  | zero => exact Rels.nil
  | succ n ih =>
    rw [List.range_succ_eq_map, List.map_cons, List.map_map]
    have : ((fun i : Nat => V.int (a + (i : Nat))) ∘ Nat.succ) = fun i : Nat => V.int (a + 1 + (i : Nat)) := by
      funext i
      simp only [Function.comp]
      congr 1
      rw [Nat.succ_eq_add_one]
      omega
    rw [this]
    refine Rels.cons ?_ (ih (a + 1))
    rw [show a + ((0 : Nat) : Int) = a by simp]
    exact Rel.int_mk
theorem rgC_one (a b : Int) : rgC a 1 (b - a).toNat = rgV a b := by
  unfold rgC rgV
  congr 1
  funext i
  rw [Int.mul_one]
theorem rgOk_small {a b : Int} (h : RgOk a b) : Builtin.Range.small a b 1 = true ∧ Builtin.Range.rangeSize a b 1 = ((b - a).toNat : Nat) ∧ (b - a).toNat ≤ 2 ^ 24 := by
  obtain ⟨b1, b2, b3, b4, b5⟩ := h
  exact ⟨small_one b1 b2 b3 b4, rangeSize_nat a b, b5⟩
theorem rgC_rel (a c : Int) (n : Nat) : Rels (kf X) B ρ H (rangeC a c n) (rgC a c n) := by
  induction n generalizing a with
  | zero => exact Rels.nil
  | succ n ih =>
    have : rgC a c (n + 1) = V.int a :: rgC (a + c) c n := by
      unfold rgC
      rw [List.range_succ_eq_map, List.map_cons, List.map_map]
      have e1 : V.int (a + ((0 : Nat) : Int) * c) = V.int a := by simp
      have e2 : ((fun i : Nat => V.int (a + (i : Int) * c)) ∘ Nat.succ) = fun i : Nat => V.int (a + c + (i : Int) * c) := by
        funext i
        simp only [Function.comp, Nat.succ_eq_add_one]
        congr 1
        rw [Int.natCast_succ, Int.add_mul]
        omega
      rw [e1, e2]
    rw [this]
    exact Rels.cons Rel.int_mk (ih (a + c))
theorem d_lrng1 {isT : Bool} {e : Expr} {p pos p2 pos2 : Pos} {m : Ev → M PV} {fr : Bool} (hc : X.calm = true) (hg : Gl X "range") (hm : X.mg "range" = none) (hg2 : Gl X (if isT then "tuple" else "list")) (hm2 : X.mg (if isT then "tuple" else "list") = none) (hs : starEach [e] X.env = (false, eval e X.env) :: starEach [] X.env) (he : PE X e (dn (kf X) xw m fr)) :
    PE X (.Call (.Name (if isT then "tuple" else "list") p2) [.Call (.Name "range" p) [e] [] pos] [] pos2) (dn (kf X) xw (fun env => do
      let x ← m env
      lift ((rng1V x).map fun l => if isT then .tup l else .lst l)) true) := by
  have main : ∀ {x : PV} {v : V} {l : List PV} {ρ1 : List Addr} {H1 : Hp} {B : Addr → Prop}, Rel (kf X) B ρ1 H1 x v → rng1V x = some l → ∃ n : Int, v = .int n ∧ RgOk 0 n ∧ (rgV 0 n).length ≤ SZ ∧ Rels (kf X) B ρ1 H1 l (rgV 0 n) := by
    intro x v l ρ1 H1 B r1 hz
    obtain ⟨j, rfl, hj1, hj2, hsz, rfl⟩ := rng1V_inv hz
    refine ⟨j, r1.int_inv, ⟨by decide, by decide, hj1, hj2, ?_⟩, ?_, ?_⟩
    · rw [Int.sub_zero]; exact hsz
    · rw [rgV_length, Int.sub_zero]; exact hsz
    · unfold rgV
      rw [Int.sub_zero]
      exact rgV_rel 0 j.toNat
  cases isT with
  | true =>
    refine PE.mono (pe_tupRc hc hg2 hm2 (prc_of (prg_1 hg hm he hs)) rfl) fun σ H Q ⟨B, ρ, h, env, s, er, q⟩ => dn_seq s er q fun x h1 ρ1 H1 v e1 s1 er1 r1 _ q => ?_
    cases hz : rng1V x with
    | none => rw [hz] at q; exact q.elim
    | some l =>
      rw [hz] at q
      obtain ⟨n, rfl, ok, hl, rs⟩ := main r1 hz
      obtain ⟨o1, o2, o3⟩ := rgOk_small ok
      exact ⟨n, rfl, _, o1, o2, o3, by rw [rgC_one]; exact fun p o oc od f => q ρ1 _ (Ext.new f) (s1.new f) _ (Rel.tup_new oc od s1 f hl rs) (fun _ a => by cases a)⟩
  | false =>
    refine PE.mono (pe_listRg hc hg2 hm2 (prg_1 hg hm he hs) rfl) fun σ H Q ⟨B, ρ, h, env, s, er, q⟩ => dn_seq s er q fun x h1 ρ1 H1 v e1 s1 er1 r1 _ q => ?_
    cases hz : rng1V x with
    | none => rw [hz] at q; exact q.elim
    | some l =>
      rw [hz] at q
      obtain ⟨n, rfl, ok, hl, rs⟩ := main r1 hz
      exact ⟨n, rfl, ok, fun p f => q ρ1 _ (Ext.new f) (s1.new f) _ (Rel.lst_new s1 f hl rs) (fun _ _ a ea => by cases ea; exact ⟨s.fresh_back s1 e1 f, fresh_lst s1 f hl rs⟩)⟩
theorem d_lrng2 {isT : Bool} {e e2 : Expr} {p pos p2 pos2 : Pos} {m m2 : Ev → M PV} {fr fr2 : Bool} (hc : X.calm = true) (hg : Gl X "range") (hm : X.mg "range" = none) (hg2 : Gl X (if isT then "tuple" else "list")) (hm2 : X.mg (if isT then "tuple" else "list") = none)
    (hs : starEach [e, e2] X.env = (false, eval e X.env) :: starEach [e2] X.env) (hs2 : starEach [e2] X.env = (false, eval e2 X.env) :: starEach [] X.env) (he : PE X e (dn (kf X) xw m fr)) (he2 : PE X e2 (dn (kf X) xw m2 fr2)) :
    PE X (.Call (.Name (if isT then "tuple" else "list") p2) [.Call (.Name "range" p) [e, e2] [] pos] [] pos2) (dn (kf X) xw (fun env => do
      let x ← m env
      let y ← m2 env
      lift ((rng2V x y).map fun l => if isT then .tup l else .lst l)) true) := by
  have main : ∀ {x y : PV} {v w : V} {l : List PV} {ρ1 : List Addr} {H1 : Hp} {B : Addr → Prop}, Rel (kf X) B ρ1 H1 x v → Rel (kf X) B ρ1 H1 y w → rng2V x y = some l → ∃ i n : Int, v = .int i ∧ w = .int n ∧ RgOk i n ∧ (rgV i n).length ≤ SZ ∧ Rels (kf X) B ρ1 H1 l (rgV i n) := by
    intro x y v w l ρ1 H1 B r1 r2 hz
    obtain ⟨i, j, rfl, rfl, hj, hsz, rfl⟩ := rng2V_inv hz
    refine ⟨i, j, r1.int_inv, r2.int_inv, ⟨hj.1, hj.2.1, hj.2.2.1, hj.2.2.2, hsz⟩, ?_, ?_⟩
    · rw [rgV_length]; exact hsz
    · unfold rgV
      exact rgV_rel i _
  cases isT with
  | true =>
    refine PE.mono (pe_tupRc hc hg2 hm2 (prc_of (prg_2 hg hm he he2 hs hs2 (by rw [hs2]; rfl))) rfl) fun σ H Q ⟨B, ρ, h, env, s, er, q⟩ => dn_seq s er q fun x h1 ρ1 H1 v e1 s1 er1 r1 _ q => dn_seq s1 er1 q fun y h2 ρ2 H2 w e2 s2 er2 r2 _ q => ?_
    cases hz : rng2V x y with
    | none => rw [hz] at q; exact q.elim
    | some l =>
      rw [hz] at q
      obtain ⟨i, n, rfl, rfl, ok, hl, rs⟩ := main (r1.mono e2) r2 hz
      obtain ⟨o1, o2, o3⟩ := rgOk_small ok
      exact ⟨i, n, rfl, rfl, _, o1, o2, o3, by rw [rgC_one]; exact fun p o oc od f => q ρ2 _ (Ext.new f) (s2.new f) _ (Rel.tup_new oc od s2 f hl rs) (fun _ a => by cases a)⟩
  | false =>
    refine PE.mono (pe_listRg hc hg2 hm2 (prg_2 hg hm he he2 hs hs2 (by rw [hs2]; rfl)) rfl) fun σ H Q ⟨B, ρ, h, env, s, er, q⟩ => dn_seq s er q fun x h1 ρ1 H1 v e1 s1 er1 r1 _ q => dn_seq s1 er1 q fun y h2 ρ2 H2 w e2 s2 er2 r2 _ q => ?_
    cases hz : rng2V x y with
    | none => rw [hz] at q; exact q.elim
    | some l =>
      rw [hz] at q
      obtain ⟨i, n, rfl, rfl, ok, hl, rs⟩ := main (r1.mono e2) r2 hz
      exact ⟨i, n, rfl, rfl, ok, fun p f => q ρ2 _ (Ext.new f) (s2.new f) _ (Rel.lst_new s2 f hl rs) (fun _ _ a ea => by cases ea; exact ⟨s.fresh_back s2 (e1.trans e2) f, fresh_lst s2 f hl rs⟩)⟩

/-! targets -/
def gNames : List Nat → TGs
  | [] => gNil
  | i :: is => gCons (gName i) (gNames is)
def gT (K : KF) : Tg → TG
  | .nm i => gName i
  | .tp is => gTup K.fr is.length (gNames is)
def tgs : Tg → List Nat
  | .nm i => [i]
  | .tp is => is
theorem gNames_ok {is : List Nat} {P : L2.St → Prop} (hs : ∀ i ∈ is, ∀ τ v, P τ → P (τ.set i (some v))) : ∀ {vs : List PV} {ws : List V} {env : Ev} {σ : L2.St} {Q : L2.St → Hp → Prop}, EnvR (kf X) B ρ H env σ → Rels (kf X) B ρ H vs ws → vs.length = is.length → P σ →
    (∀ σ', EnvR (kf X) B ρ H (setsE env is vs) σ' → P σ' → Q σ' H) → gNames is ws σ H Q := by
  induction is with
  | nil =>
    intro vs ws env σ Q er rs hl hp k
    have : vs = [] := List.eq_nil_of_length_eq_zero hl
    subst this
    exact ⟨rs.nil_inv, k σ er hp⟩
  | cons i is ih =>
    intro vs ws env σ Q er rs hl hp k
    cases vs with
    | nil => simp at hl
    | cons x vs =>
      obtain ⟨w, us, rfl, a, b⟩ := rs.cons_inv
      exact ⟨w, us, rfl, ih (fun j hj => hs j (List.mem_cons_of_mem _ hj)) (er.set a) b (by simpa using hl) (hs i (List.mem_cons_self ..) σ w hp) k⟩
theorem gT_ok {t : Tg} {P : L2.St → Prop} {x : PV} {v : V} {env e1 : Ev} {σ : L2.St} {Q : L2.St → Hp → Prop} (er : EnvR (kf X) B ρ H env σ) (r : Rel (kf X) B ρ H x v) (e : bindT t x env = some e1) (hp : P σ) (hs : ∀ i ∈ tgs t, ∀ τ v, P τ → P (τ.set i (some v)))
    (k : ∀ σ', EnvR (kf X) B ρ H e1 σ' → P σ' → Q σ' H) : gT (kf X) t v σ H Q := by
  cases t with
  | nm i =>
    simp only [bindT] at e
    cases e
    exact k _ (er.set r) (hs i (by simp [tgs]) σ v hp)
  | tp is =>
    simp only [bindT] at e
    split at e <;> try contradiction
    split at e <;> try contradiction
    rename_i l hl
    cases e
    obtain ⟨a, vs, rfl, f, z, rs⟩ := r.tup_inv
    exact ⟨a, vs, rfl, tup_sq f, by rw [← rs.length]; exact hl, gNames_ok hs er rs hl hp k⟩
def isTpT : Tg → Bool
  | .tp _ => true
  | .nm _ => false
theorem gT_okP {py : Bool} {t : Tg} {P : L2.St → Prop} {x : PV} {v : V} {env e1 : Ev} {σ : L2.St} {Q : L2.St → Hp → Prop} (hpy : py = true → isTpT t = true) (er : EnvR (kf X) B ρ H env σ) (r : RelP py (kf X) B ρ H x v) (e : bindT t x env = some e1) (hp : P σ) (hs : ∀ i ∈ tgs t, ∀ τ v, P τ → P (τ.set i (some v)))
    (k : ∀ σ', EnvR (kf X) B ρ H e1 σ' → P σ' → Q σ' H) : gT (kf X) t v σ H Q := by
  unfold RelP at r
  split at r
  · rename_i hp1
    have ht := hpy hp1
    cases t with
    | nm i => cases ht
    | tp is =>
      obtain ⟨l, a, vs, rfl, rfl, f, z, rs⟩ := r
      simp only [bindT] at e
      split at e <;> try contradiction
      rename_i hl
      cases e
      exact ⟨a, vs, rfl, .inl (.inl f), by rw [← rs.length]; exact hl, gNames_ok hs er rs hl hp k⟩
  · exact gT_ok er r e hp hs k
theorem wipe_set {σ : L2.St} {own : List Nat} {i : Nat} {v : Option V} (m : i ∈ own) : L2.wipe (σ.set i v) own = L2.wipe σ own := by
  induction own generalizing σ with
  | nil => simp at m
  | cons j own ih =>
    unfold L2.wipe
    by_cases hj : i ∈ own
    · rw [ih hj]
    · have e : i = j := by simpa [hj] using m
      subst e
      have comm : ∀ (own : List Nat) (σ : L2.St), i ∉ own → L2.wipe (σ.set i v) own = (L2.wipe σ own).set i v := by
        intro own
        induction own with
        | nil => intro σ _; rfl
        | cons k own ih2 =>
          intro σ hn
          simp only [List.mem_cons, not_or] at hn
          unfold L2.wipe
          rw [ih2 σ hn.2, List.set_comm _ _ hn.1]
      rw [comm own σ hj, List.set_set]
theorem wipe_idem {σ : L2.St} : ∀ own : List Nat, L2.wipe (L2.wipe σ own) own = L2.wipe σ own := by
  intro own
  induction own generalizing σ with
  | nil => rfl
  | cons j own ih =>
    have h1 : L2.wipe ((L2.wipe σ own).set j none) (j :: own) = L2.wipe (L2.wipe σ own) (j :: own) := wipe_set (by simp)
    show L2.wipe ((L2.wipe σ own).set j none) (j :: own) = _
    rw [h1]
    show (L2.wipe (L2.wipe σ own) own).set j none = _
    rw [ih]
    rfl
end
end Y

/-! K4e: comprehensions -/
namespace Y
open PySem PySem.Spec PyProof.Rows L2

theorem Post.nox {K : KF} {B : Addr → Prop} {α} {xw : XW} {ρ : List Addr} {H : Hp} {m : M α} {h : Hh} {Φ : α → Hh → List Addr → Hp → Prop} (p : Post K B xw ρ H (nox m h) Φ) (x0 : XW) : Post K B x0 ρ H (m h) Φ := by
  unfold Y.nox at p
  cases q : m h with
  | ok a h1 => rw [q] at p; exact p
  | ex c fs h1 => rw [q] at p; exact p.elim
  | err => rw [q] at p; exact p.elim
section
variable {X : Cx} {xw : L2.St → XW} {xc0 : XW} {B : Addr → Prop} {ρ : List Addr} {H : Hp} {h : Hh}
theorem mapG_cons {g : Hh → Bool} {f : PV → M (Option PV)} {x : PV} {xs : List PV} {h : Hh} : mapG g f (x :: xs) h = if g h then ((do let o ← f x; let r ← mapG g f xs; pure (o.toList ++ r)) : M (List PV)) h else .err := by
  show (if g h then _ else _) = _
  split
  · show _ = M.bind (f x) _ h
    unfold M.bind
    cases f x h with
    | ok o h1 =>
      show _ = M.bind (mapG g f xs) _ h1
      unfold M.bind
      simp only
      cases mapG g f xs h1 <;> rfl
    | ex c fs h1 => rfl
    | err => rfl
  · rfl
theorem bind_ok {α β} {m : M α} {k : α → M β} {h h1 : Hh} {a : α} (e : m h = .ok a h1) : (m >>= k) h = k a h1 := by
  show (match m h with | .ok a h' => k a h' | .ex c fs h' => .ex c fs h' | .err => .err) = _
  rw [e]
theorem lift_some {α} {o : Option α} {a : α} {h : Hh} (e : o = some a) : lift o h = .ok a h := by subst e; rfl
mutual
theorem swap1 {D : Addr} : ∀ (p : PV) (v : V), Rel (kf X) (wD B D) ρ H p v → Rel (kf X) B (ρ ++ [D]) H p v
  | .non, v, r => by simpa only [Rel] using r
  | .bl b, v, r => by simpa only [Rel] using r
  | .int i, v, r => by simpa only [Rel] using r
  | .str x, v, r => by simpa only [Rel] using r
  | .ref i, v, r => by
    simp only [Rel] at r ⊢
    obtain ⟨a, q, e⟩ := r
    exact ⟨a, by rw [List.getElem?_append_left (List.getElem?_eq_some_iff.mp q).1]; exact q, e⟩
  | .tup l, v, r => by
    obtain ⟨a, vs, rfl, f, z, rs⟩ := r.tup_inv
    simp only [Rel]
    exact ⟨a, vs, rfl, f, z, swaps l vs rs⟩
  | .lst l, v, r => by
    obtain ⟨a, vs, rfl, f, z, rs⟩ := r.lst_inv
    simp only [Rel]
    have nD : a ≠ D := fun e => f.2.2 (.inr e)
    exact ⟨a, vs, rfl, ⟨f.1, by simp [f.2.1, nD], fun b => f.2.2 (.inl b)⟩, z, swaps l vs rs⟩
  | .dct ks ws, v, r => by
    obtain ⟨a, kvs, rfl, f, z, k, rs⟩ := r.dct_inv
    simp only [Rel]
    have nD : a ≠ D := fun e => f.2.2 (.inr e)
    exact ⟨a, kvs, rfl, ⟨f.1, by simp [f.2.1, nD], fun b => f.2.2 (.inl b)⟩, z, k, swaps ws _ rs⟩
  | .scr l, v, r => by
    obtain ⟨a, vs, rfl, f, z, rs⟩ := r.scr_inv
    simp only [Rel]
    refine ⟨a, vs, rfl, f.imp (fun ⟨o, f⟩ => ?_) id, z, swaps l vs rs⟩
    have nD : a ≠ D := fun e => f.2.2 (.inr e)
    exact ⟨o, f.1, by simp [f.2.1, nD], fun b => f.2.2 (.inl b)⟩
theorem swaps {D : Addr} : ∀ (p : List PV) (v : List V), Rels (kf X) (wD B D) ρ H p v → Rels (kf X) B (ρ ++ [D]) H p v
  | [], v, r => by rw [r.nil_inv]; exact Rels.nil
  | x :: xs, v, r => by
    obtain ⟨w, ws, rfl, a, b⟩ := r.cons_inv
    exact Rels.cons (swap1 x w a) (swaps xs ws b)
end
/-- the state in a comprehension's block: D is being made -/
structure CompI (X : Cx) (B : Addr → Prop) (D : Addr) (ρ1 : List Addr) (H1 : Hp) (ρ : List Addr) (h : Hh) (H : Hp) (ys : List PV) (n : Nat) : Prop where
  ext : Ext ρ1 H1 ρ H
  sr : SR (kf X) (wD B D) ρ h H
  acc : ∃ acc, H D = some (.lst acc) ∧ acc.length ≤ n ∧ Rels (kf X) (wD B D) ρ H ys acc
theorem CompI.start {D : Addr} (s : SR (kf X) B ρ h H) (f : H D = none) : CompI X B D ρ H ρ h (upd H D (.lst [])) [] 0 where
  ext := Ext.new f
  sr := s.alike (alike_new f) (fun a m => upd_ne (by rintro rfl; exact s.free f m)) (fun a b => by
    rcases b with b | rfl
    · refine ⟨(s.bnd a b).1, ?_⟩
      obtain ⟨o, e⟩ := (s.bnd a b).2
      exact ⟨o, by rw [upd_ne (ne_of_none e f)]; exact e⟩
    · exact ⟨s.free f, _, upd_same⟩)
  acc := ⟨[], upd_same, Nat.le_refl _, Rels.nil⟩
theorem CompI.app {D : Addr} {ρ1 : List Addr} {H1 : Hp} {ys : List PV} {n : Nat} {y : PV} {v : V} (c : CompI X B D ρ1 H1 ρ h H ys n) (f : H1 D = none) (r : Rel (kf X) (wD B D) ρ H y v) :
    ∃ acc, H D = some (.lst acc) ∧ acc.length ≤ n ∧ CompI X B D ρ1 H1 ρ h (upd H D (.lst (acc ++ [v]))) (ys ++ [y]) (n + 1) := by
  obtain ⟨acc, e, l, rs⟩ := c.acc
  have nD : D ∉ ρ := (c.sr.bnd D (.inr rfl)).1
  refine ⟨acc, e, l, ⟨⟨c.ext.pre, fun a o q n => ?_, fun a vs q => ?_⟩, c.sr.alike (alike_app e) (fun a m => upd_ne (by rintro rfl; exact nD m)) (fun a b => ?_), ?_⟩⟩
  · obtain ⟨h1, h2⟩ := c.ext.keep a o q n
    exact ⟨by rw [upd_ne (ne_of_none q f)]; exact h1, h2⟩
  · obtain ⟨_, _, _, q'⟩ := id q
    exact (c.ext.tup a vs q).ne (ne_of_none q' f)
  · refine ⟨(c.sr.bnd a b).1, ?_⟩
    by_cases hd : a = D
    · subst hd; exact ⟨_, upd_same⟩
    · obtain ⟨o, q⟩ := (c.sr.bnd a b).2
      exact ⟨o, by rw [upd_ne hd]; exact q⟩
  · exact ⟨acc ++ [v], upd_same, by simp; omega, (rs.append (Rels.cons r Rels.nil)).alike (alike_app e)⟩
theorem CompI.step {D : Addr} {ρ1 ρ2 : List Addr} {H1 H2 : Hp} {h2 : Hh} {ys : List PV} {n : Nat} (c : CompI X B D ρ1 H1 ρ h H ys n) (e : Ext ρ H ρ2 H2) (s : SR (kf X) (wD B D) ρ2 h2 H2) : CompI X B D ρ1 H1 ρ2 h2 H2 ys n := by
  obtain ⟨acc, e1, l, rs⟩ := c.acc
  have nD : D ∉ ρ := (c.sr.bnd D (.inr rfl)).1
  exact ⟨c.ext.trans e, s, acc, (e.keep D _ e1 nD).1, l, rs.mono e⟩
theorem CompI.mono {D : Addr} {ρ1 : List Addr} {H1 : Hp} {ys : List PV} {n m : Nat} (c : CompI X B D ρ1 H1 ρ h H ys n) (l : n ≤ m) : CompI X B D ρ1 H1 ρ h H ys m := by
  obtain ⟨acc, e, l', rs⟩ := c.acc
  exact ⟨c.ext, c.sr, acc, e, Nat.le_trans l' l, rs⟩
theorem Rels.swap {D : Addr} {l : List PV} {vs : List V} (r : Rels (kf X) (wD B D) ρ H l vs) : Rels (kf X) B (ρ ++ [D]) H l vs := swaps l vs r
theorem ObR.swap {D a : Addr} {o : Ob} (q : ObR (kf X) (wD B D) ρ H a o) : ObR (kf X) B (ρ ++ [D]) H a o := by
  cases o with
  | lst xs => obtain ⟨vs, r, z, q⟩ := q; exact ⟨vs, r, z, q.swap⟩
  | dct ks ws => obtain ⟨kvs, r, z, k', q⟩ := q; exact ⟨kvs, r, z, k', q.swap⟩
theorem CompI.done {D : Addr} {ρ1 : List Addr} {H1 : Hp} {ys : List PV} {n : Nat} (s1 : ∃ h1, SR (kf X) B ρ1 h1 H1) (f : H1 D = none) (c : CompI X B D ρ1 H1 ρ h H ys n) (hn : n ≤ SZ) : SR (kf X) B ρ h H ∧ Rel (kf X) B ρ H (.lst ys) (.ref D) ∧ Fresh (kf X) B ρ h H (.lst ys) D := by
  obtain ⟨acc, e, l, rs⟩ := c.acc
  obtain ⟨h1, s1⟩ := s1
  have less : Alike (wD B D) B ρ H H := ⟨fun a o q n b => ⟨q, fun z => b (.inl z)⟩, fun _ _ q => q⟩
  have nD : D ∉ ρ := (c.sr.bnd D (.inr rfl)).1
  refine ⟨c.sr.alike less (fun _ _ => rfl) (fun a b => c.sr.bnd a (.inl b)), ?_, ?_⟩
  · simp only [Rel]
    exact ⟨D, acc, rfl, ⟨e, nD, s1.notB f⟩, Nat.le_trans l hn, rs.alike less⟩
  · refine ⟨by simp [c.sr.len], ?_, fun b hb => ?_, fun i o' a e1 r => ?_⟩
    · rw [List.nodup_append]
      refine ⟨c.sr.nd, by simp, fun x hx y hy => ?_⟩
      simp at hy
      subst hy
      rintro rfl
      exact nD hx
    · obtain ⟨n, o, q⟩ := c.sr.bnd b (.inl hb)
      have : b ≠ D := by rintro rfl; exact s1.notB f hb
      exact ⟨by simp [n, this], o, q⟩
    · by_cases hi : i < h.length
      · rw [List.getElem?_append_left hi] at e1
        rw [List.getElem?_append_left (by rw [c.sr.len]; exact hi)] at r
        exact (c.sr.ob i o' a e1 r).swap
      · have hl : i = h.length := by
          have := (List.getElem?_eq_some_iff.mp e1).1
          simp at this
          omega
        subst hl
        rw [List.getElem?_append_right (Nat.le_refl _), Nat.sub_self] at e1
        rw [List.getElem?_append_right (by rw [c.sr.len]; exact Nat.le_refl _), c.sr.len, Nat.sub_self] at r
        simp at e1 r
        subst e1 r
        exact ⟨acc, e, Nat.le_trans l hn, rs.swap⟩

def blkOwn (own : List (Str × Nat)) : List Nat := own.map (·.2)
theorem lc1_wp {py : Bool} {own : List (Str × Nat)} {t : Tg} {mI : Ev → M (List PV × (Hh → Bool))} {mf : Ev → M Bool} {me : Ev → M PV} {fr : Bool} (ht : ∀ i ∈ tgs t, i ∈ own.map (·.2)) (hpy : py = true → isTpT t = true) (σ : L2.St) (H : Hp) (Q : VK) :
    dn (kf X) xw (lc1 t (own.map (·.2)) mI mf me) true σ H Q → tLc (dnI (kf X) xw py mI) (gT (kf X) t) (dnB (kf X) (fun _ => xc0) mf) (dn (kf X) (fun _ => xc0) me fr) (own.map (·.2)) σ H Q := by
  refine fun ⟨B, ρ, h, env, s, er, q⟩ => ⟨B, ρ, h, env, s, er, q.bind.imp fun lg h1 ρ1 H1 e1 s1 q J hJ => ?_⟩
  intro D fD
  have hB1 : ∀ a, B a → wD B D a := fun a b => .inl b
  have hB2 : ∀ a, wD B D a → B a ∨ H1 a = none := fun a b => by
    rcases b with b | rfl
    · exact .inl b
    · exact .inr fD
  have W := hJ (wD B D) hB1 hB2
  -- what is left: the run over the items behind i, with ys so far
  generalize hF : (fun v => (do
        let e1 ← lift (bindT t v (Y.wipe env (own.map (·.2))))
        if ← mf e1 then (do let y ← me e1; pure (some y)) else pure none) : PV → M (Option PV)) = F at q
  have q := q.bind
  have hq : ∀ ρr Hr, Post (kf X) (wD B D) xc0 ρr Hr (mapG lg.2 F lg.1 h1) fun zs h3 ρ3 H3 => ∀ n, n ≤ SZ → CompI X B D ρ1 H1 ρ3 h3 H3 zs n → Q (.ref D) H3 := by
    unfold Y.nox at q
    cases hm : mapG lg.2 F lg.1 h1 with
    | err => rw [hm] at q; exact q.elim
    | ex c fs h3 => rw [hm] at q; exact q.elim
    | ok zs h3 =>
      rw [hm] at q
      intro ρr Hr ρ3 H3 e3 s3 n hn c
      obtain ⟨sB, rD, fD'⟩ := c.done ⟨h1, s1⟩ fD hn
      have q := q ρ3 H3 c.ext sB
      exact q ρ3 H3 (Ext.refl _ _) sB _ rD (fun _ _ a ea => by cases ea; exact ⟨s.fresh_back s1 e1 fD, fD'⟩)
  have erD : ∀ {ρ' : List Addr} {H' : Hp}, Ext ρ1 H1 ρ' H' → EnvR (kf X) (wD B D) ρ' H' env σ := fun e => by
    have al : Alike B (wD B D) ρ1 H1 H1 := ⟨fun a o q n b => ⟨q, fun z => by
      rcases z with z | rfl
      · exact b z
      · rw [q] at fD; cases fD⟩, fun _ _ q => q⟩
    exact ((er.mono e1).alike al).mono e
  refine ⟨fun i m H' => m = lg.1.length - i ∧ i ≤ lg.1.length ∧ ∃ ρ' h' ys, CompI X B D ρ1 H1 ρ' h' H' ys i ∧
      ∀ ρr Hr, Post (kf X) (wD B D) xc0 ρr Hr (mapG lg.2 F (lg.1.drop i) h') fun zs h3 ρ3 H3 => ∀ n, n ≤ SZ → CompI X B D ρ1 H1 ρ3 h3 H3 (ys ++ zs) n → Q (.ref D) H3,
    ⟨_, rfl, Nat.zero_le _, ρ1, h1, [], CompI.start s1 fD, hq⟩, ?_⟩
  rintro i m H' ⟨rfl, hi, ρ', h', ys, c, p⟩
  by_cases hlt : i < lg.1.length
  · have hd : lg.1.drop i = lg.1[i] :: lg.1.drop (i + 1) := List.drop_eq_getElem_cons hlt
    rw [hd, mapG_cons] at p
    by_cases hgt : lg.2 h' = true
    · rw [if_pos hgt] at p
      have hx : lg.1[i]? = some lg.1[i] := List.getElem?_eq_getElem hlt
      refine .inr ⟨W.go ρ' h' H' i _ c.ext.w c.sr hgt hx, fun H'' => ∃ ρ'' h'' ys', CompI X B D ρ1 H1 ρ'' h'' H'' ys' (i + 1) ∧
          ∀ ρr Hr, Post (kf X) (wD B D) xc0 ρr Hr (mapG lg.2 F (lg.1.drop (i + 1)) h'') fun zs h3 ρ3 H3 => ∀ n, n ≤ SZ → CompI X B D ρ1 H1 ρ3 h3 H3 (ys' ++ zs) n → Q (.ref D) H3,
        fun H'' w => ⟨_, by omega, rfl, hlt, w⟩, fun v Hy hy => ?_⟩
      obtain ⟨ey, sy, ry, ky⟩ := W.yld ρ' h' H' i _ v Hy c.ext.w c.sr hgt hx hy
      have c := c.step ey sy
      have p0 := (p ρ' Hy).bind
      rw [← hF] at p0
      have p0 := p0.bind
      obtain ⟨ev, hev, p0⟩ := p0.lift sy
      have hFx : F lg.1[i] h' = (mf ev >>= fun b => if b = true then (me ev >>= fun y => pure (some y)) else pure none : M (Option PV)) h' := by
        rw [← hF]
        exact bind_ok (lift_some hev)
      have erw : EnvR (kf X) (wD B D) ρ' Hy (Y.wipe env (own.map (·.2))) (L2.wipe σ (own.map (·.2))) := (erD c.ext).wipe _
      refine gT_okP (P := fun τ => L2.wipe τ (own.map (·.2)) = L2.wipe σ (own.map (·.2))) hpy erw ry hev (wipe_idem _) (fun j hj τ w hτ => by rw [wipe_set (ht j hj)]; exact hτ) fun σ2 er2 hσ2 => ⟨hσ2, ?_⟩
      refine ⟨wD B D, ρ', h', ev, sy, er2, p0.bind.eqn.imp fun b h3 ρ3 H3 e3 s3 ⟨em, p1⟩ => ?_⟩
      have c := c.step e3 s3
      cases b with
      | false =>
        change ∃ (ρ'' : List Addr) (h'' : Hh) (ys' : List PV), CompI X B D ρ1 H1 ρ'' h'' H3 ys' (i + 1) ∧ _
        have hFx2 : F lg.1[i] h' = .ok none h3 := by
          rw [hFx, bind_ok em, if_neg Bool.false_ne_true]
          rfl
        refine ⟨ρ3, h3, ys, c.mono (Nat.le_succ i), fun ρr Hr => ?_⟩
        have p := p ρr Hr
        rw [bind_ok hFx2] at p
        exact p.bind.imp fun zs h4 ρ4 H4 e4 s4 p => by
          have p := Post.pure p s4
          simpa using p
      | true =>
        have p1 : Post (kf X) (wD B D) xc0 ρ3 H3 ((me ev >>= fun y => pure (some y) : M (Option PV)) h3) _ := p1
        show dn (kf X) (fun _ => xc0) me fr σ2 H3 _
        refine ⟨wD B D, ρ3, h3, ev, s3, er2.mono e3, p1.bind.eqn.imp fun y h4 ρ4 H4 e4 s4 ⟨em2, p2⟩ w rw_ _ => ?_⟩
        have c := c.step e4 s4
        obtain ⟨acc, ha, hl, c'⟩ := c.app fD rw_
        have hFx2 : F lg.1[i] h' = .ok (some y) h4 := by
          rw [hFx, bind_ok em, if_pos rfl, bind_ok em2]
          rfl
        refine ⟨acc, ha, ?_, ρ4, h4, ys ++ [y], c', fun ρr Hr => ?_⟩
        · have := W.small
          rw [SZ_eq]
          omega
        · have p := p ρr Hr
          rw [bind_ok hFx2] at p
          exact p.bind.imp fun zs h5 ρ5 H5 e5 s5 p => by
            have p := Post.pure p s5
            simpa using p
    · rw [if_neg hgt] at p
      exact (p ρ' H').elim
  · have e : i = lg.1.length := by omega
    subst e
    rw [List.drop_length] at p
    unfold mapG at p
    by_cases hgt : lg.2 h' = true
    · rw [if_pos hgt] at p
      have p := p ρ' H' ρ' H' (Ext.refl _ _) c.sr lg.1.length W.small (by rw [List.append_nil]; exact c)
      exact .inl ⟨W.stop ρ' h' H' c.ext.w c.sr hgt, p⟩
    · rw [if_neg hgt] at p
      exact (p ρ' H').elim

theorem d_comp1 {py : Bool} {elt tg iter : Expr} {ifs : List Expr} {scope : Scope} {own : List (Str × Nat)} {pos : Pos} {t : Tg} {mI : Ev → M (List PV × (Hh → Bool))} {mf : Ev → M Bool} {me : Ev → M PV} {fr : Bool} (hc : X.calm = true) (hN : X.N.Nodup) (ok : BlkOk X.N X.env.scope scope own)
    (ht : ∀ i ∈ tgs t, i ∈ own.map (·.2)) (hpy : py = true → isTpT t = true) (hi : PI X tg iter (dnI (kf X) xw py mI))
    (hg : ∀ (s : Shared) (H : Hp) (C : Addr) (cl : List (Str × Addr)) (fp : List Addr), PG (X.blk s H scope (compEnvC scope cl C X.env) fp) tg (gT (kf X) t)) (hf : ∀ (s : Shared) (H : Hp) (C : Addr) (cl : List (Str × Addr)) (fp : List Addr), PTs (X.blk s H scope (compEnvC scope cl C X.env) fp) ifs (dnB (kf X) (fun _ => xc0) mf))
    (he : ∀ (s : Shared) (H : Hp) (C : Addr) (cl : List (Str × Addr)) (fp : List Addr), PE (X.blk s H scope (compEnvC scope cl C X.env) fp) elt (dn (kf X) (fun _ => xc0) me fr)) (hs : ∀ x, foldedSetIterable iter X.env x = pure x) :
    PE X (.ListComp elt [⟨tg, iter, ifs, 0⟩] scope pos) (dn (kf X) xw (lc1 t (own.map (·.2)) mI mf me) true) :=
  PE.mono (pe_lc hc hN hi ok hg hf he hs) fun σ H Q => lc1_wp ht hpy σ H Q
end
end Y

/-! K4f: comprehensions with two generators -/
namespace Y
open PySem PySem.Spec PyProof.Rows L2

theorem bind_ok_inv {α β} {m : M α} {k : α → M β} {h h2 : Hh} {b : β} (e : (m >>= k) h = .ok b h2) : ∃ a h1, m h = .ok a h1 ∧ k a h1 = .ok b h2 := by
  have e : (match m h with | .ok a h' => k a h' | .ex c fs h' => .ex c fs h' | .err => .err : R β) = .ok b h2 := e
  cases q : m h with
  | ok a h1 => rw [q] at e; exact ⟨a, h1, rfl, e⟩
  | ex c fs h1 => rw [q] at e; cases e
  | err => rw [q] at e; cases e
theorem lift_inv {α} {o : Option α} {h h2 : Hh} {a : α} (e : lift o h = .ok a h2) : o = some a ∧ h2 = h := by
  cases o with
  | none => cases e
  | some x => cases e; exact ⟨rfl, rfl⟩
theorem pure_inv {α} {a b : α} {h h2 : Hh} (e : (Pure.pure a : M α) h = .ok b h2) : b = a ∧ h2 = h := by cases e; exact ⟨rfl, rfl⟩
theorem mapG_inv {g : Hh → Bool} {f : PV → M (Option PV)} {x : PV} {xs zs : List PV} {h h3 : Hh} (e : mapG g f (x :: xs) h = .ok zs h3) : g h = true ∧ ∃ o h1 r, f x h = .ok o h1 ∧ mapG g f xs h1 = .ok r h3 ∧ zs = o.toList ++ r := by
  rw [mapG_cons] at e
  split at e
  · rename_i hg
    obtain ⟨o, h1, e1, e⟩ := bind_ok_inv e
    obtain ⟨r, h2, e2, e⟩ := bind_ok_inv e
    obtain ⟨rfl, rfl⟩ := pure_inv e
    exact ⟨hg, o, h1, r, e1, e2, rfl⟩
  · cases e
theorem mapG_inv0 {g : Hh → Bool} {f : PV → M (Option PV)} {zs : List PV} {h h3 : Hh} (e : mapG g f [] h = .ok zs h3) : g h = true ∧ zs = [] ∧ h3 = h := by
  unfold mapG at e
  split at e
  · cases e; exact ⟨by assumption, rfl, rfl⟩
  · cases e
theorem bindG_inv {g : Hh → Bool} {f : PV → M (List PV)} {x : PV} {xs zs : List PV} {h h3 : Hh} (e : bindG g f (x :: xs) h = .ok zs h3) : g h = true ∧ ∃ o h1 r, f x h = .ok o h1 ∧ bindG g f xs h1 = .ok r h3 ∧ zs = o ++ r := by
  unfold bindG at e
  split at e
  · rename_i hg
    cases h1 : f x h with
    | err => simp only [h1] at e; cases e
    | ex c fs h1' => simp only [h1] at e; cases e
    | ok o h1' =>
      simp only [h1] at e
      cases h2 : bindG g f xs h1' with
      | err => simp only [h2] at e; cases e
      | ex c fs h2' => simp only [h2] at e; cases e
      | ok r h2' =>
        simp only [h2] at e
        cases e
        exact ⟨hg, o, h1', r, rfl, h2, rfl⟩
  · cases e
theorem bindG_inv0 {g : Hh → Bool} {f : PV → M (List PV)} {zs : List PV} {h h3 : Hh} (e : bindG g f [] h = .ok zs h3) : g h = true ∧ zs = [] ∧ h3 = h := by
  unfold bindG at e
  split at e
  · cases e; exact ⟨by assumption, rfl, rfl⟩
  · cases e

def turnM (t : Tg) (mf : Ev → M Bool) (me : Ev → M PV) (e0 : Ev) : PV → M (Option PV) := fun v => do
  let e1 ← lift (bindT t v e0)
  if ← mf e1 then (do let y ← me e1; pure (some y)) else pure none
theorem turn_inv {t : Tg} {mf : Ev → M Bool} {me : Ev → M PV} {e0 : Ev} {v : PV} {h h1 : Hh} {o : Option PV} (e : turnM t mf me e0 v h = .ok o h1) : ∃ (e1 : Ev) (b : Bool) (h2 : Hh), bindT t v e0 = some e1 ∧ mf e1 h = .ok b h2 ∧ ((b = true ∧ ∃ y, me e1 h2 = .ok y h1 ∧ o = some y) ∨ (b = false ∧ o = none ∧ h1 = h2)) := by
  obtain ⟨e1, h2, a0, q⟩ := bind_ok_inv (m := lift (bindT t v e0)) e
  obtain ⟨a, h2e⟩ := lift_inv a0
  subst h2e
  obtain ⟨b, h3, a2, q⟩ := bind_ok_inv (m := mf e1) q
  refine ⟨e1, b, h3, a, a2, ?_⟩
  cases b with
  | true =>
    obtain ⟨y, h4, a3, e⟩ := bind_ok_inv (show (me e1 >>= fun y => pure (some y)) h3 = .ok o h1 from q)
    obtain ⟨rfl, rfl⟩ := pure_inv e
    exact .inl ⟨rfl, y, a3, rfl⟩
  | false =>
    obtain ⟨rfl, rfl⟩ := pure_inv (show (pure none : M (Option PV)) h3 = .ok o h1 from q)
    exact .inr ⟨rfl, rfl, rfl⟩
section
variable {X : Cx} {xc0 : XW} {B : Addr → Prop}
theorem Post.ok' {α} {xw : XW} {ρ : List Addr} {H : Hp} {r : R α} {a : α} {h1 : Hh} {Φ : α → Hh → List Addr → Hp → Prop} (e : r = .ok a h1) (f : ∀ ρ' H', Ext ρ H ρ' H' → SR (kf X) B ρ' h1 H' → Φ a h1 ρ' H') : Post (kf X) B xw ρ H r Φ := by
  rw [e]; exact f
theorem EnvR.monoW {B : Addr → Prop} {ρ ρ' : List Addr} {H H' : Hp} {env : Ev} {σ : L2.St} (r : EnvR (kf X) B ρ H env σ) (e : ExtW B ρ H ρ' H') : EnvR (kf X) B ρ' H' env σ :=
  ⟨r.1, fun i p q => let ⟨v, a, b⟩ := r.2 i p q; ⟨v, a, Rel.monoW e p v b⟩⟩
/-- the second generator's loop -/
theorem inner_loop {py : Bool} {D : Addr} {J1 : It} {l : List PV} {g : Hh → Bool} {ρ1 ρb : List Addr} {H1 Hb : Hp} {hb hE : Hh} {ys zs : List PV} {t : Tg} {mf : Ev → M Bool} {me : Ev → M PV} {fr : Bool} {e0 : Ev} {σ2 : L2.St} {vs1 : List Nat} {Nx : Hp → Prop}
    (hpy : py = true → isTpT t = true) (W : WalkOk (kf X) py J1 (wD B D) l g ρb Hb) (ht : ∀ i ∈ tgs t, i ∈ vs1) (f1 : H1 D = none) (c : CompI X B D ρ1 H1 ρb hb Hb ys ys.length) (er : EnvR (kf X) (wD B D) ρb Hb e0 σ2) (run : mapG g (turnM t mf me (Y.wipe e0 vs1)) l hb = .ok zs hE) (hz : (ys ++ zs).length ≤ SZ)
    (fin : ∀ ρ' H', ExtW (wD B D) ρb Hb ρ' H' → CompI X B D ρ1 H1 ρ' hE H' (ys ++ zs) (ys ++ zs).length → Nx H') :
    ∃ W1 : Nat → Nat → Hp → Prop, (∃ m, W1 0 m Hb) ∧ ∀ j k H, W1 j k H → (J1.stop j H ∧ Nx H) ∨ (J1.go j H ∧ ∃ Nx1 : Hp → Prop, (∀ H', Nx1 H' → ∃ k', k' < k ∧ W1 (j + 1) k' H') ∧ ∀ x H', J1.yld j H x H' → gT (kf X) t x (L2.wipe σ2 vs1) H' fun σ3 H5 => L2.wipe σ3 vs1 = L2.wipe σ2 vs1 ∧ dnB (kf X) (fun _ => xc0) mf σ3 H5 fun b H6 =>
        if b = true then dn (kf X) (fun _ => xc0) me fr σ3 H6 fun y H7 => ∃ acc, H7 D = some (.lst acc) ∧ acc.length < sizeLine ∧ Nx1 (upd H7 D (.lst (acc ++ [y]))) else Nx1 H6) := by
  refine ⟨fun j k H => k = l.length - j ∧ j ≤ l.length ∧ ∃ ρ' h' ys' zs', ExtW (wD B D) ρb Hb ρ' H ∧ CompI X B D ρ1 H1 ρ' h' H ys' ys'.length ∧ mapG g (turnM t mf me (Y.wipe e0 vs1)) (l.drop j) h' = .ok zs' hE ∧ ys' ++ zs' = ys ++ zs,
    ⟨_, rfl, Nat.zero_le _, ρb, hb, ys, zs, (Ext.refl _ _).w, c, run, rfl⟩, ?_⟩
  rintro j k H ⟨rfl, hj, ρ', h', ys', zs', e, c, run, eq⟩
  by_cases hlt : j < l.length
  · rw [List.drop_eq_getElem_cons hlt] at run
    obtain ⟨hg, o, h2, r, e1, e2, rfl⟩ := mapG_inv run
    have hx : l[j]? = some l[j] := List.getElem?_eq_getElem hlt
    refine .inr ⟨W.go ρ' h' H j _ e c.sr hg hx, fun H'' => ∃ ρ'' h'' ys'' zs'', ExtW (wD B D) ρb Hb ρ'' H'' ∧ CompI X B D ρ1 H1 ρ'' h'' H'' ys'' ys''.length ∧ mapG g (turnM t mf me (Y.wipe e0 vs1)) (l.drop (j + 1)) h'' = .ok zs'' hE ∧ ys'' ++ zs'' = ys ++ zs,
      fun H'' w => ⟨_, by omega, rfl, hlt, w⟩, fun v Hy hy => ?_⟩
    obtain ⟨ey, sy, ry, ky⟩ := W.yld ρ' h' H j _ v Hy e c.sr hg hx hy
    have c := c.step ey sy
    obtain ⟨ev, b, h3, hev, em, hb'⟩ := turn_inv e1
    have erw : EnvR (kf X) (wD B D) ρ' Hy (Y.wipe e0 vs1) (L2.wipe σ2 vs1) := ((er.monoW e).mono ey).wipe _
    refine gT_okP (P := fun τ => L2.wipe τ vs1 = L2.wipe σ2 vs1) hpy erw ry hev (wipe_idem _) (fun i hi τ w hτ => by rw [wipe_set (ht i hi)]; exact hτ) fun σ3 er3 hσ3 => ⟨hσ3, ?_⟩
    refine ⟨wD B D, ρ', h', ev, sy, er3, Post.ok' em fun ρ3 H3 e3 s3 => ?_⟩
    have c := c.step e3 s3
    rcases hb' with ⟨rfl, y, ey2, rfl⟩ | ⟨rfl, rfl, rfl⟩
    · show dn (kf X) (fun _ => xc0) me fr σ3 H3 _
      refine ⟨wD B D, ρ3, h3, ev, s3, er3.mono e3, Post.ok' ey2 fun ρ4 H4 e4 s4 w rw_ _ => ?_⟩
      have c := c.step e4 s4
      obtain ⟨acc, ha, hl, c'⟩ := c.app f1 rw_
      have hlen : ys'.length + 1 ≤ SZ := by
        rw [← eq] at hz
        simp at hz
        omega
      refine ⟨acc, ha, by rw [SZ_eq]; omega, ρ4, h2, ys' ++ [y], r, ?_, ?_, e2, by rw [← eq]; simp⟩
      · refine (((e.trans ey.w).trans e3.w).trans e4.w).trans ⟨⟨[], by simp⟩, fun a o q n nb => ⟨by rw [upd_ne (fun z => nb (.inr z))]; exact q, n⟩, fun a vs q => ?_⟩
        exact q.ne (by rintro rfl; obtain ⟨_, _, _, q⟩ := q; rw [ha] at q; cases q)
      · simpa using c'
    · change ∃ ρ'' h'' ys'' zs'', _
      exact ⟨ρ3, _, ys', r, (e.trans ey.w).trans e3.w, c, e2, by rw [← eq]; rfl⟩
  · have ej : j = l.length := by omega
    subst ej
    rw [List.drop_length] at run
    obtain ⟨hg, rfl, rfl⟩ := mapG_inv0 run
    have q := fin ρ' H e
    rw [← eq, List.append_nil] at q
    exact .inl ⟨W.stop ρ' _ H e c.sr hg, q c⟩

theorem lc2_wp {xw : L2.St → XW} {py py1 : Bool} {own : List (Str × Nat)} {vs1 : List Nat} {t t1 : Tg} {mI mI1 : Ev → M (List PV × (Hh → Bool))} {mf mf1 : Ev → M Bool} {me : Ev → M PV} {fr : Bool} (ht : ∀ i ∈ tgs t, i ∈ own.map (·.2)) (ht1 : ∀ i ∈ tgs t1, i ∈ vs1) (hpy : py = true → isTpT t = true) (hpy1 : py1 = true → isTpT t1 = true) (σ : L2.St) (H : Hp) (Q : VK) :
    dn (kf X) xw (lc2 t (own.map (·.2)) mI mf t1 vs1 mI1 mf1 me) true σ H Q → tLc2 (dnI (kf X) xw py mI) (gT (kf X) t) (dnB (kf X) (fun _ => xc0) mf) (dnI (kf X) (fun _ => xc0) py1 mI1) (gT (kf X) t1) (dnB (kf X) (fun _ => xc0) mf1) (dn (kf X) (fun _ => xc0) me fr) (own.map (·.2)) vs1 σ H Q := by
  refine fun ⟨B, ρ, h, env, s, er, q⟩ => ⟨B, ρ, h, env, s, er, q.bind.imp fun lg h1 ρ1 H1 e1 s1 q J hJ => ?_⟩
  intro D fD
  have W := hJ (wD B D) (fun a b => .inl b) (fun a b => by
    rcases b with b | rfl
    · exact .inl b
    · exact .inr fD)
  generalize hF : (fun v => (do
        let e1 ← lift (bindT t v (Y.wipe env (own.map (·.2))))
        if ← mf e1 then (do
          let lg1 ← mI1 e1
          mapG lg1.2 (fun v1 => do
            let e2 ← lift (bindT t1 v1 (Y.wipe e1 vs1))
            if ← mf1 e2 then (do let y ← me e2; pure (some y)) else pure none) lg1.1) else pure []) : PV → M (List PV)) = F at q
  have q := q.bind
  have erD : ∀ {ρ' : List Addr} {H' : Hp}, Ext ρ1 H1 ρ' H' → EnvR (kf X) (wD B D) ρ' H' env σ := fun e => by
    have al : Alike B (wD B D) ρ1 H1 H1 := ⟨fun a o q n b => ⟨q, fun z => by
      rcases z with z | rfl
      · exact b z
      · rw [q] at fD; cases fD⟩, fun _ _ q => q⟩
    exact ((er.mono e1).alike al).mono e
  obtain ⟨zs, hE, run, hz, fin⟩ : ∃ zs hE, bindG lg.2 F lg.1 h1 = .ok zs hE ∧ zs.length ≤ SZ ∧ ∀ ρ' H', CompI X B D ρ1 H1 ρ' hE H' zs zs.length → Q (.ref D) H' := by
    unfold Y.nox at q
    cases hm : (bindG lg.2 F lg.1 >>= sizeM) h1 with
    | err => rw [hm] at q; exact q.elim
    | ex c fs h3 => rw [hm] at q; exact q.elim
    | ok zs h3 =>
      rw [hm] at q
      obtain ⟨ys, h4, g1, g2⟩ := bind_ok_inv hm
      obtain ⟨g3, rfl⟩ := lift_inv g2
      split at g3 <;> try contradiction
      rename_i hz
      cases g3
      refine ⟨zs, h3, g1, hz, fun ρ' H' c => ?_⟩
      obtain ⟨sB, rD, fD'⟩ := c.done ⟨h1, s1⟩ fD hz
      exact (q ρ' H' c.ext sB) ρ' H' (Ext.refl _ _) sB _ rD (fun _ _ a ea => by cases ea; exact ⟨s.fresh_back s1 e1 fD, fD'⟩)
  refine ⟨fun i m H' => m = lg.1.length - i ∧ i ≤ lg.1.length ∧ ∃ ρ' h' ys' zs', CompI X B D ρ1 H1 ρ' h' H' ys' ys'.length ∧ bindG lg.2 F (lg.1.drop i) h' = .ok zs' hE ∧ ys' ++ zs' = zs,
    ⟨_, rfl, Nat.zero_le _, ρ1, h1, [], zs, CompI.start s1 fD, run, rfl⟩, ?_⟩
  rintro i m H' ⟨rfl, hi, ρ', h', ys', zs', c, run, eq⟩
  by_cases hlt : i < lg.1.length
  · rw [List.drop_eq_getElem_cons hlt] at run
    obtain ⟨hgt, o, h2, r, r1, r2, rfl⟩ := bindG_inv run
    have hx : lg.1[i]? = some lg.1[i] := List.getElem?_eq_getElem hlt
    refine .inr ⟨W.go ρ' h' H' i _ c.ext.w c.sr hgt hx, fun H'' => ∃ ρ'' h'' ys'' zs'', CompI X B D ρ1 H1 ρ'' h'' H'' ys'' ys''.length ∧ bindG lg.2 F (lg.1.drop (i + 1)) h'' = .ok zs'' hE ∧ ys'' ++ zs'' = zs,
      fun H'' w => ⟨_, by omega, rfl, hlt, w⟩, fun v Hy hy => ?_⟩
    obtain ⟨ey, sy, ry, ky⟩ := W.yld ρ' h' H' i _ v Hy c.ext.w c.sr hgt hx hy
    have c := c.step ey sy
    rw [← hF] at r1
    obtain ⟨ev, h3, a0, rq⟩ := bind_ok_inv (m := lift (bindT t lg.1[i] (Y.wipe env (own.map (·.2))))) r1
    obtain ⟨hev, rfl⟩ := lift_inv a0
    have rq' : (mf ev >>= fun b => if b = true then (mI1 ev >>= fun lg1 => mapG lg1.2 (turnM t1 mf1 me (Y.wipe ev vs1)) lg1.1 : M (List PV)) else pure []) _ = .ok o h2 := rq
    obtain ⟨b, h4, em, rz⟩ := bind_ok_inv rq'
    have erw : EnvR (kf X) (wD B D) ρ' Hy (Y.wipe env (own.map (·.2))) (L2.wipe σ (own.map (·.2))) := (erD c.ext).wipe _
    refine gT_okP (P := fun τ => L2.wipe τ (own.map (·.2)) = L2.wipe σ (own.map (·.2))) hpy erw ry hev (wipe_idem _) (fun j hj τ w hτ => by rw [wipe_set (ht j hj)]; exact hτ) fun σ2 er2 hσ2 => ⟨hσ2, ?_⟩
    refine ⟨wD B D, ρ', _, ev, sy, er2, Post.ok' em fun ρ3 H3 e3 s3 => ?_⟩
    have c := c.step e3 s3
    cases b with
    | false =>
      obtain ⟨rfl, rfl⟩ := pure_inv (show (pure [] : M (List PV)) h4 = .ok o h2 from rz)
      change ∃ ρ'' h'' ys'' zs'', CompI X B D ρ1 H1 ρ'' h'' H3 ys'' ys''.length ∧ _
      exact ⟨ρ3, _, ys', r, c, r2, by rw [← eq]; rfl⟩
    | true =>
      obtain ⟨lg1, h5, em1, rz2⟩ := bind_ok_inv (show (mI1 ev >>= fun lg1 => mapG lg1.2 (turnM t1 mf1 me (Y.wipe ev vs1)) lg1.1 : M (List PV)) h4 = .ok o h2 from rz)
      show dnI (kf X) (fun _ => xc0) py1 mI1 σ2 H3 _
      refine ⟨wD B D, ρ3, h4, ev, s3, er2.mono e3, Post.ok' em1 fun ρ4 H4 e4 s4 J1 hJ1 => ?_⟩
      have c := c.step e4 s4
      have W1 := hJ1 (wD B D) (fun _ b => b) (fun _ b => .inl b)
      have hz' : (ys' ++ o).length ≤ SZ := by
        rw [← eq] at hz
        simp at hz ⊢
        omega
      exact inner_loop hpy1 W1 ht1 fD c ((er2.mono e3).mono e4) rz2 hz' fun ρ5 H5 e5 c5 => ⟨ρ5, h2, ys' ++ o, r, c5, r2, by rw [← eq]; simp⟩
  · have ej : i = lg.1.length := by omega
    subst ej
    rw [List.drop_length] at run
    obtain ⟨hg, rfl, rfl⟩ := bindG_inv0 run
    rw [List.append_nil] at eq
    subst eq
    exact .inl ⟨W.stop ρ' _ H' c.ext.w c.sr hg, fin ρ' H' c⟩
theorem d_comp2 {xw : L2.St → XW} {py py1 : Bool} {elt tg iter tg1 iter1 : Expr} {ifs ifs1 : List Expr} {scope : Scope} {own : List (Str × Nat)} {vs1 : List Nat} {pos : Pos} {t t1 : Tg} {mI mI1 : Ev → M (List PV × (Hh → Bool))} {mf mf1 : Ev → M Bool} {me : Ev → M PV} {fr : Bool} (hc : X.calm = true) (hN : X.N.Nodup) (ok : BlkOk X.N X.env.scope scope own)
    (hv : ∀ i ∈ vs1, i ∈ own.map (·.2)) (ht : ∀ i ∈ tgs t, i ∈ own.map (·.2)) (ht1 : ∀ i ∈ tgs t1, i ∈ vs1) (hpy : py = true → isTpT t = true) (hpy1 : py1 = true → isTpT t1 = true) (hi : PI X tg iter (dnI (kf X) xw py mI))
    (hg : ∀ (s : Shared) (H : Hp) (C : Addr) (cl : List (Str × Addr)) (fp : List Addr), PG (X.blk s H scope (compEnvC scope cl C X.env) fp) tg (gT (kf X) t)) (hf : ∀ (s : Shared) (H : Hp) (C : Addr) (cl : List (Str × Addr)) (fp : List Addr), PTs (X.blk s H scope (compEnvC scope cl C X.env) fp) ifs (dnB (kf X) (fun _ => xc0) mf))
    (hi1 : ∀ (s : Shared) (H : Hp) (C : Addr) (cl : List (Str × Addr)) (fp : List Addr), PI (X.blk s H scope (compEnvC scope cl C X.env) fp) tg1 iter1 (dnI (kf X) (fun _ => xc0) py1 mI1)) (hg1 : ∀ (s : Shared) (H : Hp) (C : Addr) (cl : List (Str × Addr)) (fp : List Addr), PG (X.blk s H scope (compEnvC scope cl C X.env) fp) tg1 (gT (kf X) t1))
    (hf1 : ∀ (s : Shared) (H : Hp) (C : Addr) (cl : List (Str × Addr)) (fp : List Addr), PTs (X.blk s H scope (compEnvC scope cl C X.env) fp) ifs1 (dnB (kf X) (fun _ => xc0) mf1))
    (he : ∀ (s : Shared) (H : Hp) (C : Addr) (cl : List (Str × Addr)) (fp : List Addr), PE (X.blk s H scope (compEnvC scope cl C X.env) fp) elt (dn (kf X) (fun _ => xc0) me fr)) (hs : ∀ x, foldedSetIterable iter X.env x = pure x)
    (hs1 : ∀ (env : Env) (x : Value), foldedSetIterable iter1 env x = pure x) :
    PE X (.ListComp elt [⟨tg, iter, ifs, 0⟩, ⟨tg1, iter1, ifs1, 0⟩] scope pos) (dn (kf X) xw (lc2 t (own.map (·.2)) mI mf t1 vs1 mI1 mf1 me) true) :=
  PE.mono (pe_lc2 hc hN hi ok hv hg hf hi1 hg1 hf1 he hs hs1) fun σ H Q => lc2_wp ht ht1 hpy hpy1 σ H Q
end
end Y

/-! K4g: dict comprehensions, d.get(k, z) -/
namespace Y
open PySem PySem.Spec PyProof.Rows L2
section
variable {X : Cx} {xw : L2.St → XW} {xc0 : XW} {B : Addr → Prop} {ρ : List Addr} {H : Hp} {h : Hh}
theorem dctG_app : ∀ {ys zs : List PV} {d d1 : List PV × List PV}, dctG ys d = some d1 → dctG (ys ++ zs) d = dctG zs d1
  | [], zs, d, d1, e => by
    unfold dctG at e
    cases e
    rfl
  | y :: ys, zs, d, d1, e => by
    cases y with
    | tup l =>
      match l, e with
      | [k, v], e => exact dctG_app (ys := ys) (zs := zs) (show dctG ys (dput k v d.1 d.2) = some d1 from e)
      | [], e => simp [dctG] at e
      | [_], e => simp [dctG] at e
      | _ :: _ :: _ :: _, e => simp [dctG] at e
    | _ => simp [dctG] at e
theorem alike_put {D : Addr} {kvs : List (Key × V)} {o : HO} (f : H D = some (.dK kvs)) : Alike (wD B D) (wD B D) ρ H (upd H D o) where
  frz := fun a u e n b => ⟨by rw [upd_ne (fun q => b (.inr q))]; exact e, b⟩
  tup := fun a vs e => e.ne (by rintro rfl; obtain ⟨_, _, _, e⟩ := e; rw [f] at e; cases e)
/-- the state in a dict comprehension's block: D is being made -/
structure CompD (X : Cx) (B : Addr → Prop) (D : Addr) (ρ1 : List Addr) (H1 : Hp) (ρ : List Addr) (h : Hh) (H : Hp) (d : List PV × List PV) (n : Nat) : Prop where
  ext : Ext ρ1 H1 ρ H
  sr : SR (kf X) (wD B D) ρ h H
  acc : ∃ kvs : List (Key × V), H D = some (.dK kvs) ∧ kvs.length ≤ n ∧ d.1 = kvs.map (fun p => keyP p.1) ∧ Rels (kf X) (wD B D) ρ H d.2 (kvs.map (·.2))
theorem CompD.start {D : Addr} (s : SR (kf X) B ρ h H) (f : H D = none) : CompD X B D ρ H ρ h (upd H D (.dK [])) ([], []) 0 where
  ext := Ext.new f
  sr := s.alike (alike_new f) (fun a m => upd_ne (by rintro rfl; exact s.free f m)) (fun a b => by
    rcases b with b | rfl
    · refine ⟨(s.bnd a b).1, ?_⟩
      obtain ⟨o, e⟩ := (s.bnd a b).2
      exact ⟨o, by rw [upd_ne (ne_of_none e f)]; exact e⟩
    · exact ⟨s.free f, _, upd_same⟩)
  acc := ⟨[], upd_same, Nat.le_refl _, rfl, Rels.nil⟩
theorem CompD.put {D : Addr} {ρ1 : List Addr} {H1 : Hp} {d : List PV × List PV} {n : Nat} {y z : PV} {w v : V} (c : CompD X B D ρ1 H1 ρ h H d n) (f : H1 D = none) (hk : isKey y = true) (rk : Rel (kf X) (wD B D) ρ H y w) (r : Rel (kf X) (wD B D) ρ H z v) :
    ∃ kvs k, w = kV k ∧ H D = some (.dK kvs) ∧ kvs.length ≤ n ∧ CompD X B D ρ1 H1 ρ h (upd H D (.dK (putK kvs k v))) (dput y z d.1 d.2) (n + 1) := by
  obtain ⟨kvs, e, l, k1, rs⟩ := c.acc
  have nD : D ∉ ρ := (c.sr.bnd D (.inr rfl)).1
  obtain ⟨p1, p2, p3⟩ := put_V (x := z) hk rs r
  refine ⟨kvs, toK y, key_V hk rk, e, l, ⟨⟨c.ext.pre, fun a o q n => ?_, fun a vs q => ?_⟩, c.sr.alike (alike_put e) (fun a m => upd_ne (by rintro rfl; exact nD m)) (fun a b => ?_), ?_⟩⟩
  · obtain ⟨h1, h2⟩ := c.ext.keep a o q n
    exact ⟨by rw [upd_ne (ne_of_none q f)]; exact h1, h2⟩
  · obtain ⟨_, _, _, q'⟩ := id q
    exact (c.ext.tup a vs q).ne (ne_of_none q' f)
  · refine ⟨(c.sr.bnd a b).1, ?_⟩
    by_cases hd : a = D
    · subst hd; exact ⟨_, upd_same⟩
    · obtain ⟨o, q⟩ := (c.sr.bnd a b).2
      exact ⟨o, by rw [upd_ne hd]; exact q⟩
  · rw [k1]
    exact ⟨putK kvs (toK y) v, upd_same, by omega, p1, p2.alike (alike_put e)⟩
theorem CompD.step {D : Addr} {ρ1 ρ2 : List Addr} {H1 H2 : Hp} {h2 : Hh} {d : List PV × List PV} {n : Nat} (c : CompD X B D ρ1 H1 ρ h H d n) (e : Ext ρ H ρ2 H2) (s : SR (kf X) (wD B D) ρ2 h2 H2) : CompD X B D ρ1 H1 ρ2 h2 H2 d n := by
  obtain ⟨kvs, e1, l, k1, rs⟩ := c.acc
  have nD : D ∉ ρ := (c.sr.bnd D (.inr rfl)).1
  exact ⟨c.ext.trans e, s, kvs, (e.keep D _ e1 nD).1, l, k1, rs.mono e⟩
theorem CompD.mono {D : Addr} {ρ1 : List Addr} {H1 : Hp} {d : List PV × List PV} {n m : Nat} (c : CompD X B D ρ1 H1 ρ h H d n) (l : n ≤ m) : CompD X B D ρ1 H1 ρ h H d m := by
  obtain ⟨kvs, e, l', k1, rs⟩ := c.acc
  exact ⟨c.ext, c.sr, kvs, e, Nat.le_trans l' l, k1, rs⟩
theorem CompD.done {D : Addr} {ρ1 : List Addr} {H1 : Hp} {d : List PV × List PV} {n : Nat} (s1 : ∃ h1, SR (kf X) B ρ1 h1 H1) (f : H1 D = none) (c : CompD X B D ρ1 H1 ρ h H d n) (hn : n ≤ SZ) : SR (kf X) B ρ h H ∧ Rel (kf X) B ρ H (.dct d.1 d.2) (.ref D) ∧ Fresh (kf X) B ρ h H (.dct d.1 d.2) D := by
  obtain ⟨kvs, e, l, k1, rs⟩ := c.acc
  obtain ⟨h1, s1⟩ := s1
  have less : Alike (wD B D) B ρ H H := ⟨fun a o q n b => ⟨q, fun z => b (.inl z)⟩, fun _ _ q => q⟩
  have nD : D ∉ ρ := (c.sr.bnd D (.inr rfl)).1
  refine ⟨c.sr.alike less (fun _ _ => rfl) (fun a b => c.sr.bnd a (.inl b)), ?_, ?_⟩
  · simp only [Rel]
    exact ⟨D, kvs, rfl, ⟨e, nD, s1.notB f⟩, Nat.le_trans l hn, k1, rs.alike less⟩
  · refine ⟨by simp [c.sr.len], ?_, fun b hb => ?_, fun i o' a e1 r => ?_⟩
    · rw [List.nodup_append]
      refine ⟨c.sr.nd, by simp, fun x hx y hy => ?_⟩
      simp at hy
      subst hy
      rintro rfl
      exact nD hx
    · obtain ⟨n, o, q⟩ := c.sr.bnd b (.inl hb)
      have : b ≠ D := by rintro rfl; exact s1.notB f hb
      exact ⟨by simp [n, this], o, q⟩
    · by_cases hi : i < h.length
      · rw [List.getElem?_append_left hi] at e1
        rw [List.getElem?_append_left (by rw [c.sr.len]; exact hi)] at r
        exact (c.sr.ob i o' a e1 r).swap
      · have hl : i = h.length := by
          have := (List.getElem?_eq_some_iff.mp e1).1
          simp at this
          omega
        subst hl
        rw [List.getElem?_append_right (Nat.le_refl _), Nat.sub_self] at e1
        rw [List.getElem?_append_right (by rw [c.sr.len]; exact Nat.le_refl _), c.sr.len, Nat.sub_self] at r
        simp at e1 r
        subst e1 r
        exact ⟨kvs, e, Nat.le_trans l hn, k1, rs.swap⟩
theorem dc1_wp {py : Bool} {own : List (Str × Nat)} {t : Tg} {mI : Ev → M (List PV × (Hh → Bool))} {mf : Ev → M Bool} {mk mv : Ev → M PV} {fk fv : Bool} (ht : ∀ i ∈ tgs t, i ∈ own.map (·.2)) (hpy : py = true → isTpT t = true) (σ : L2.St) (H : Hp) (Q : VK) :
    dn (kf X) xw (dc1 t (own.map (·.2)) mI mf mk mv) true σ H Q → tDc (dnI (kf X) xw py mI) (gT (kf X) t) (dnB (kf X) (fun _ => xc0) mf) (dn (kf X) (fun _ => xc0) mk fk) (dn (kf X) (fun _ => xc0) mv fv) (own.map (·.2)) σ H Q := by
  refine fun ⟨B, ρ, h, env, s, er, q⟩ => ⟨B, ρ, h, env, s, er, q.bind.imp fun lg h1 ρ1 H1 e1 s1 q J hJ => ?_⟩
  intro D fD
  have hB1 : ∀ a, B a → wD B D a := fun a b => .inl b
  have hB2 : ∀ a, wD B D a → B a ∨ H1 a = none := fun a b => by
    rcases b with b | rfl
    · exact .inl b
    · exact .inr fD
  have W := hJ (wD B D) hB1 hB2
  generalize hF : (fun v => (do
        let e1 ← lift (bindT t v (Y.wipe env (own.map (·.2))))
        if ← mf e1 then (do let y ← mk e1; let z ← mv e1; lift (if isKey y = true then some (some (PV.tup [y, z])) else none)) else pure none) : PV → M (Option PV)) = F at q
  have q := q.bind
  have hq : ∀ ρr Hr, Post (kf X) (wD B D) xc0 ρr Hr (mapG lg.2 F lg.1 h1) fun zs h3 ρ3 H3 => ∀ d n, n ≤ SZ → dctG zs ([], []) = some d → CompD X B D ρ1 H1 ρ3 h3 H3 d n → Q (.ref D) H3 := by
    unfold Y.nox at q
    cases hm : mapG lg.2 F lg.1 h1 with
    | err => rw [hm] at q; exact q.elim
    | ex c fs h3 => rw [hm] at q; exact q.elim
    | ok zs h3 =>
      rw [hm] at q
      intro ρr Hr ρ3 H3 e3 s3 d n hn hd c
      obtain ⟨sB, rD, fD'⟩ := c.done ⟨h1, s1⟩ fD hn
      have q : Post (kf X) B (xw σ) ρ3 H3 (lift (dctP zs) h3) _ := q ρ3 H3 c.ext sB
      have ed : dctP zs = some (.dct d.1 d.2) := by unfold dctP; rw [hd]; rfl
      rw [ed] at q
      exact q ρ3 H3 (Ext.refl _ _) sB _ rD (fun _ _ a ea => by cases ea; exact ⟨s.fresh_back s1 e1 fD, fD'⟩)
  have erD : ∀ {ρ' : List Addr} {H' : Hp}, Ext ρ1 H1 ρ' H' → EnvR (kf X) (wD B D) ρ' H' env σ := fun e => by
    have al : Alike B (wD B D) ρ1 H1 H1 := ⟨fun a o q n b => ⟨q, fun z => by
      rcases z with z | rfl
      · exact b z
      · rw [q] at fD; cases fD⟩, fun _ _ q => q⟩
    exact ((er.mono e1).alike al).mono e
  refine ⟨fun i m H' => m = lg.1.length - i ∧ i ≤ lg.1.length ∧ ∃ ρ' h' ys d, dctG ys ([], []) = some d ∧ CompD X B D ρ1 H1 ρ' h' H' d i ∧
      ∀ ρr Hr, Post (kf X) (wD B D) xc0 ρr Hr (mapG lg.2 F (lg.1.drop i) h') fun zs h3 ρ3 H3 => ∀ d n, n ≤ SZ → dctG (ys ++ zs) ([], []) = some d → CompD X B D ρ1 H1 ρ3 h3 H3 d n → Q (.ref D) H3,
    ⟨_, rfl, Nat.zero_le _, ρ1, h1, [], _, rfl, CompD.start s1 fD, hq⟩, ?_⟩
  rintro i m H' ⟨rfl, hi, ρ', h', ys, d, hd, c, p⟩
  by_cases hlt : i < lg.1.length
  · have hdr : lg.1.drop i = lg.1[i] :: lg.1.drop (i + 1) := List.drop_eq_getElem_cons hlt
    rw [hdr, mapG_cons] at p
    by_cases hgt : lg.2 h' = true
    · rw [if_pos hgt] at p
      have hx : lg.1[i]? = some lg.1[i] := List.getElem?_eq_getElem hlt
      refine .inr ⟨W.go ρ' h' H' i _ c.ext.w c.sr hgt hx, fun H'' => ∃ ρ'' h'' ys' d', dctG ys' ([], []) = some d' ∧ CompD X B D ρ1 H1 ρ'' h'' H'' d' (i + 1) ∧
          ∀ ρr Hr, Post (kf X) (wD B D) xc0 ρr Hr (mapG lg.2 F (lg.1.drop (i + 1)) h'') fun zs h3 ρ3 H3 => ∀ d n, n ≤ SZ → dctG (ys' ++ zs) ([], []) = some d → CompD X B D ρ1 H1 ρ3 h3 H3 d n → Q (.ref D) H3,
        fun H'' w => ⟨_, by omega, rfl, hlt, w⟩, fun v Hy hy => ?_⟩
      obtain ⟨ey, sy, ry, ky⟩ := W.yld ρ' h' H' i _ v Hy c.ext.w c.sr hgt hx hy
      have c := c.step ey sy
      have p0 := (p ρ' Hy).bind
      rw [← hF] at p0
      have p0 := p0.bind
      obtain ⟨ev, hev, p0⟩ := p0.lift sy
      have hFx : F lg.1[i] h' = (mf ev >>= fun b => if b = true then (mk ev >>= fun y => (mv ev >>= fun z => lift (if isKey y = true then some (some (PV.tup [y, z])) else none))) else pure none : M (Option PV)) h' := by
        rw [← hF]
        exact bind_ok (lift_some hev)
      have erw : EnvR (kf X) (wD B D) ρ' Hy (Y.wipe env (own.map (·.2))) (L2.wipe σ (own.map (·.2))) := (erD c.ext).wipe _
      refine gT_okP (P := fun τ => L2.wipe τ (own.map (·.2)) = L2.wipe σ (own.map (·.2))) hpy erw ry hev (wipe_idem _) (fun j hj τ w hτ => by rw [wipe_set (ht j hj)]; exact hτ) fun σ2 er2 hσ2 => ⟨hσ2, ?_⟩
      refine ⟨wD B D, ρ', h', ev, sy, er2, p0.bind.eqn.imp fun b h3 ρ3 H3 e3 s3 ⟨em, p1⟩ => ?_⟩
      have c := c.step e3 s3
      cases b with
      | false =>
        change ∃ (ρ'' : List Addr) (h'' : Hh) (ys' : List PV) (d' : List PV × List PV), dctG ys' ([], []) = some d' ∧ CompD X B D ρ1 H1 ρ'' h'' H3 d' (i + 1) ∧ _
        have hFx2 : F lg.1[i] h' = .ok none h3 := by
          rw [hFx, bind_ok em, if_neg Bool.false_ne_true]
          rfl
        refine ⟨ρ3, h3, ys, d, hd, c.mono (Nat.le_succ i), fun ρr Hr => ?_⟩
        have p := p ρr Hr
        rw [bind_ok hFx2] at p
        exact p.bind.imp fun zs h4 ρ4 H4 e4 s4 p => by
          have p := Post.pure p s4
          simpa using p
      | true =>
        have p1 : Post (kf X) (wD B D) xc0 ρ3 H3 ((mk ev >>= fun y => (mv ev >>= fun z => lift (if isKey y = true then some (some (PV.tup [y, z])) else none)) : M (Option PV)) h3) _ := p1
        show dn (kf X) (fun _ => xc0) mk fk σ2 H3 _
        refine ⟨wD B D, ρ3, h3, ev, s3, er2.mono e3, p1.bind.eqn.imp fun y h4 ρ4 H4 e4 s4 ⟨em2, p2⟩ w rw_ _ => ?_⟩
        have c := c.step e4 s4
        refine ⟨wD B D, ρ4, h4, ev, s4, (er2.mono e3).mono e4, p2.bind.eqn.imp fun z h5 ρ5 H5 e5 s5 ⟨em3, p3⟩ u ru _ => ?_⟩
        have c := c.step e5 s5
        have hk : isKey y = true := by
          by_cases hk : isKey y = true
          · exact hk
          · rw [if_neg hk] at p3; exact p3.elim
        obtain ⟨kvs, k, ek, ha, hl, c'⟩ := c.put fD hk (rw_.mono e5) ru
        have hFx2 : F lg.1[i] h' = .ok (some (PV.tup [y, z])) h5 := by
          rw [hFx, bind_ok em, if_pos rfl, bind_ok em2, bind_ok em3, if_pos hk]
          rfl
        refine ⟨kvs, k, ek, ha, ?_, ρ5, h5, ys ++ [PV.tup [y, z]], _, ?_, c', fun ρr Hr => ?_⟩
        · have := W.small
          rw [SZ_eq]
          omega
        · rw [dctG_app hd]
          rfl
        · have p := p ρr Hr
          rw [bind_ok hFx2] at p
          exact p.bind.imp fun zs h5 ρ5 H5 e5 s5 p => by
            have p := Post.pure p s5
            simpa using p
    · rw [if_neg hgt] at p
      exact (p ρ' H').elim
  · have e : i = lg.1.length := by omega
    subst e
    rw [List.drop_length] at p
    unfold mapG at p
    by_cases hgt : lg.2 h' = true
    · rw [if_pos hgt] at p
      have p := p ρ' H' ρ' H' (Ext.refl _ _) c.sr d lg.1.length W.small (by rw [List.append_nil]; exact hd) c
      exact .inl ⟨W.stop ρ' h' H' c.ext.w c.sr hgt, p⟩
    · rw [if_neg hgt] at p
      exact (p ρ' H').elim
theorem d_dcomp {py : Bool} {kx vx tg iter : Expr} {ifs : List Expr} {scope : Scope} {own : List (Str × Nat)} {pos : Pos} {t : Tg} {mI : Ev → M (List PV × (Hh → Bool))} {mf : Ev → M Bool} {mk mv : Ev → M PV} {fk fv : Bool} (hc : X.calm = true) (hN : X.N.Nodup) (ok : BlkOk X.N X.env.scope scope own)
    (ht : ∀ i ∈ tgs t, i ∈ own.map (·.2)) (hpy : py = true → isTpT t = true) (hi : PI X tg iter (dnI (kf X) xw py mI))
    (hg : ∀ (s : Shared) (H : Hp) (C : Addr) (cl : List (Str × Addr)) (fp : List Addr), PG (X.blk s H scope (compEnvC scope cl C X.env) fp) tg (gT (kf X) t)) (hf : ∀ (s : Shared) (H : Hp) (C : Addr) (cl : List (Str × Addr)) (fp : List Addr), PTs (X.blk s H scope (compEnvC scope cl C X.env) fp) ifs (dnB (kf X) (fun _ => xc0) mf))
    (hk : ∀ (s : Shared) (H : Hp) (C : Addr) (cl : List (Str × Addr)) (fp : List Addr), PE (X.blk s H scope (compEnvC scope cl C X.env) fp) kx (dn (kf X) (fun _ => xc0) mk fk))
    (he : ∀ (s : Shared) (H : Hp) (C : Addr) (cl : List (Str × Addr)) (fp : List Addr), PE (X.blk s H scope (compEnvC scope cl C X.env) fp) vx (dn (kf X) (fun _ => xc0) mv fv)) (hs : ∀ x, foldedSetIterable iter X.env x = pure x) :
    PE X (.DictComp kx vx [⟨tg, iter, ifs, 0⟩] scope pos) (dn (kf X) xw (dc1 t (own.map (·.2)) mI mf mk mv) true) :=
  PE.mono (pe_dc hc hN hi ok hg hf hk he hs) fun σ H Q => dc1_wp ht hpy σ H Q
end
end Y

/-! K5: built-ins, methods, calls -/
namespace Y
open PySem PySem.Spec PyProof.Rows L2

/-- no *e -/
def noStar : Expr → Bool
  | .Starred .. => false
  | _ => true
theorem star_one {e : Expr} {es : List Expr} {env : Env} (h : noStar e = true) : starEach (e :: es) env = (false, eval e env) :: starEach es env := by
  cases e <;> first | rfl | (cases h)
theorem star_none {es : List Expr} {env : Env} {pos : Pos} (h : es.all noStar = true) : (backTo pos (starEach es env)).any (·.1) = false := by
  induction es with
  | nil => rfl
  | cons e es ih =>
    rw [List.all_cons, Bool.and_eq_true] at h
    rw [star_one h.1]
    show (false || (backTo pos (starEach es env)).any (·.1)) = false
    rw [ih h.2]; rfl
theorem star_few {es : List Expr} {env : Env} {pos : Pos} (h : es.all noStar = true) : (backTo pos (starEach es env)).all (fun x => !x.1) = true := by
  induction es with
  | nil => rfl
  | cons e es ih =>
    rw [List.all_cons, Bool.and_eq_true] at h
    rw [star_one h.1]
    show (true && (backTo pos (starEach es env)).all (fun x => !x.1)) = true
    rw [ih h.2]; rfl
/-- a receiver that is no call -/
def noCall : Expr → Bool
  | .Call .. => false
  | _ => true
theorem base_ok {o : Expr} {a : Str} {env : Env} {w : Sem Value} (h : noCall o = true) : attributeBase o a env w = w := by
  cases o <;> first | rfl | (cases h)
section
variable {X : Cx} {xw : L2.St → XW} {B : Addr → Prop}
theorem d_bi {b : Bi} {e : Expr} {es : List Expr} {p pos : Pos} {m : Ev → M (List PV)} (hroom : ∃ k, Room k X.A) (hc : X.calm = true) (hg : Gl X (biN b)) (hm : X.mg (biN b) = none) (ha : PA X (e :: es) (dnL (kf X) xw m)) (hs : (e :: es).all noStar = true) :
    PE X (.Call (.Name (biN b) p) (e :: es) [] pos) (dn (kf X) xw (fun env => do let vs ← m env; fun h => lift (bi1 h b vs) h) true) := by
  obtain ⟨r, hr, hk⟩ := bi_ok (X := X) b hc (by obtain ⟨k, hr⟩ := hroom; have := hr.units; omega)
  obtain ⟨hv, hn, hdb⟩ := bi_boot b
  rw [List.all_cons, Bool.and_eq_true] at hs
  have he : starEach (e :: es) X.env = (false, eval e X.env) :: starEach es X.env := star_one hs.1
  have hpl : (backTo pos (starEach es X.env)).any (·.1) = false := star_none hs.2
  have key : PE X (.Call (.Name (biN b) p) (e :: es) [] pos) (tCB r (dnL (kf X) xw m)) := by
    cases b with
    | len => exact pe_callB hr hg hm hv ha hn hdb he hpl
    | tuple => exact pe_callTy hr hg hm hv ha hn hdb he hpl
    | list => exact pe_callTy hr hg hm hv ha hn hdb he hpl
    | int => exact pe_callTy hr hg hm hv ha hn hdb he hpl
    | bool => exact pe_callTy hr hg hm hv ha hn hdb he hpl
    | abs => exact pe_callB hr hg hm hv ha hn hdb he hpl
    | sorted => exact pe_callB hr hg hm hv ha hn hdb he hpl
    | any => exact pe_callB hr hg hm hv ha hn hdb he hpl
    | all => exact pe_callB hr hg hm hv ha hn hdb he hpl
    | sum => exact pe_callB hr hg hm hv ha hn hdb he hpl
    | min2 => exact pe_callB hr hg hm hv ha hn hdb he hpl
    | max2 => exact pe_callB hr hg hm hv ha hn hdb he hpl
    | str => exact pe_callTy hr hg hm hv ha hn hdb he hpl
    | lists => exact pe_callTy hr hg hm hv ha hn hdb he hpl
  refine PE.mono key fun σ H Q ⟨B, ρ, h, env, s, er, q⟩ => dnL_seq s er q fun xs h1 ρ1 H1 vs e1 s1 _ rs q => ?_
  have q : Post (kf X) B (xw σ) ρ1 H1 (lift (bi1 h1 b xs) h1) _ := q
  cases hz : bi1 h1 b xs with
  | none => rw [hz] at q; exact q.elim
  | some z =>
    rw [hz] at q
    exact hk s1 rs hz fun ρ' H' u e' s' ru fu => q ρ' H' e' s' u ru fun _ il a ea => (fu il a ea).imp (s.fresh_back s1 e1) id
theorem d_isi {a : Expr} {t : Ty} {p p2 pos : Pos} {ma : Ev → M PV} {fa : Bool} (hg : Gl X "isinstance") (hm : X.mg "isinstance" = none) (hg2 : Gl X (tyN t)) (hm2 : X.mg (tyN t) = none) (ha : PE X a (dn (kf X) xw ma fa)) (hs : noStar a = true) :
    PE X (.Call (.Name "isinstance" p) [a, .Name (tyN t) p2] [] pos) (dn (kf X) xw (fun env => do let x ← ma env; fun h => lift ((isiV h x t).map PV.bl) h) false) := by
  obtain ⟨hv, hn, hdb⟩ := ty_boot t
  have ht : PE X (.Name (tyN t) p2) (tC (.ty (tyS t))) := pe_bltn hg2 hm2 hv rfl hn hdb
  refine PE.mono (pe_callB call_isi hg hm (by decide +kernel) (pa_cons ha (pa_cons ht pa_nil (star_one rfl)) (star_one hs)) (by decide +kernel) (by decide +kernel) (star_one hs) (star_none (by rfl))) fun σ H Q ⟨B, ρ, h, env, s, er, q⟩ => dn_seq s er q fun x h1 ρ1 H1 v e1 s1 er1 r1 _ q => ?_
  have q : Post (kf X) B (xw σ) ρ1 H1 (lift ((isiV h1 x t).map PV.bl) h1) _ := q
  cases hz : isiV h1 x t with
  | none => rw [hz] at q; exact q.elim
  | some z =>
    rw [hz] at q
    obtain ⟨T, ty, ek⟩ := isi_at s1 r1 hz
    exact ⟨v, .ty (tyS t), .type T, .type (tyS t), z, rfl, .ty _, ty, ek, q ρ1 H1 (Ext.refl _ _) s1 _ Rel.bl_mk (fun a => by cases a)⟩
theorem mtT_list {h : Hh} {m : Mt} {x : PV} {H : Hp} {ρ : List Addr} {v : V} (s : SR (kf X) B ρ h H) (r : Rel (kf X) B ρ H x v) (hm : m ≠ .join) (hm2 : m ≠ .get1) (hm3 : m ≠ .index) (e : mtT h m x = some ()) : tyV X.K "list" v H := by
  have e : ((lstOf h x).map fun _ => ()) = some () := by cases m <;> first | exact e | exact absurd rfl hm | exact absurd rfl hm2 | exact absurd rfl hm3
  cases hl : lstOf h x with
  | none => rw [hl] at e; cases e
  | some l =>
    obtain ⟨a, ws, rfl, q, _⟩ := lst_at s r hl
    exact .inl ⟨rfl, ws, SqL.of q⟩
theorem d_mtL {m : Mt} {o e : Expr} {es : List Expr} {apos cpos : Pos} {mo : Ev → M PV} {ms : Ev → M (List PV)} {fo : Bool} (hmt : m = .append ∨ m = .extend ∨ m = .pop1 ∨ m = .insert) (ho : PE X o (dn (kf X) xw mo fo)) (ha : PA X (e :: es) (dnL (kf X) xw ms)) (hs : (e :: es).all noStar = true) (hb : noCall o = true) (hf : (e :: es).length < 30) (hline : (apos.endLine == cpos.line) = true) :
    PE X (.Call (.Attribute o (mtNm m) apos) (e :: es) [] cpos) (dn (kf X) xw (fun env => do
      let x ← mo env
      fun h => lift (mtT h m x) h
      let vs ← ms env
      mtV m x vs) false) := by
  obtain ⟨r, slot, hty, hr, hk⟩ := mtL_ok (X := X) m (by rcases hmt with z | z | z | z <;> simp [z])
  have hs0 := hs
  rw [List.all_cons, Bool.and_eq_true] at hs
  refine PE.mono (pe_bm PySem.F.plainAttrs_list slot hty hr ho ha (base_ok hb) (by
    rw [Bool.and_eq_true, Bool.and_eq_true]
    refine ⟨⟨star_few hs0, rfl⟩, ?_⟩
    exact decide_eq_true hf) hline (star_one hs.1) (star_none hs.2)) fun σ H Q ⟨B, ρ, h, env, s, er, q⟩ => dn_seq s er q fun x h1 ρ1 H1 v e1 s1 er1 r1 _ q => ?_
  have q : Post (kf X) B (xw σ) ρ1 H1 (((fun h => lift (mtT h m x) h) >>= fun _ => (ms env >>= fun vs => mtV m x vs) : M PV) h1) _ := q
  have q := q.bind
  have q : Post (kf X) B (xw σ) ρ1 H1 (lift (mtT h1 m x) h1) _ := q
  cases hz : mtT h1 m x with
  | none => rw [hz] at q; exact q.elim
  | some u =>
    rw [hz] at q
    have q := q ρ1 H1 (Ext.refl _ _) s1
    refine ⟨mtT_list s1 r1 (by rcases hmt with z | z | z | z <;> simp [z]) (by rcases hmt with z | z | z | z <;> simp [z]) (by rcases hmt with z | z | z | z <;> simp [z]) hz, dnL_seq s1 er1 q fun xs h2 ρ2 H2 vs e2 s2 _ rs q => ?_⟩
    cases hz2 : mtV m x xs h2 with
    | ok z h3 =>
      rw [hz2] at q
      exact hk s2 (r1.mono e2) rs hz2 fun ρ' H' w e' s' rw' => q ρ' H' e' s' w rw' (fun a => by cases a)
    | ex c fs h3 =>
      exfalso
      rcases hmt with rfl | rfl | rfl | rfl <;> simp only [mtV, mAppend, mExtend, mPop1, mInsert] at hz2 <;> (repeat' split at hz2) <;> cases hz2
    | err => rw [hz2] at q; exact q.elim
theorem d_pop0 {o : Expr} {apos cpos : Pos} {mo : Ev → M PV} {fo : Bool} (ho : PE X o (dn (kf X) xw mo fo)) (hb : noCall o = true) (hline : (apos.endLine == cpos.line) = true) :
    PE X (.Call (.Attribute o "pop" apos) [] [] cpos) (dn (kf X) xw (fun env => do
      let x ← mo env
      fun h => lift (mtT h .pop0 x) h
      let vs ← (fun _ h => .ok [] h : Ev → M (List PV)) env
      mtV .pop0 x vs) false) := by
  obtain ⟨r, slot, hty, hr, hk⟩ := mtL_ok (X := X) .pop0 (by simp)
  refine PE.mono (pe_bm0 PySem.F.plainAttrs_list slot hty hr ho (base_ok hb) hline) fun σ H Q ⟨B, ρ, h, env, s, er, q⟩ => dn_seq s er q fun x h1 ρ1 H1 v e1 s1 er1 r1 _ q => ?_
  have q : Post (kf X) B (xw σ) ρ1 H1 (((fun h => lift (mtT h .pop0 x) h) >>= fun _ => (((fun _ h => .ok [] h : Ev → M (List PV)) env) >>= fun vs => mtV .pop0 x vs) : M PV) h1) _ := q
  have q := q.bind
  have q : Post (kf X) B (xw σ) ρ1 H1 (lift (mtT h1 .pop0 x) h1) _ := q
  cases hz : mtT h1 .pop0 x with
  | none => rw [hz] at q; exact q.elim
  | some u =>
    rw [hz] at q
    have q : Post (kf X) B (xw σ) ρ1 H1 (mtV .pop0 x [] h1) _ := (q ρ1 H1 (Ext.refl _ _) s1).bind ρ1 H1 (Ext.refl _ _) s1
    refine ⟨mtT_list s1 r1 (by simp) (by simp) (by simp) hz, ?_⟩
    cases hz2 : mtV .pop0 x [] h1 with
    | ok z h3 =>
      rw [hz2] at q
      exact hk s1 r1 Rels.nil hz2 fun ρ' H' w e' s' rw' => q ρ' H' e' s' w rw' (fun a => by cases a)
    | ex c fs h3 =>
      exfalso
      simp only [mtV, mPop0] at hz2
      (repeat' split at hz2) <;> cases hz2
    | err => rw [hz2] at q; exact q.elim
theorem d_join {o e : Expr} {apos pos : Pos} {mo me : Ev → M PV} {fo fe : Bool} (ho : PE X o (dn (kf X) xw mo fo)) (he : PE X e (dn (kf X) xw me fe)) (hs : noStar e = true) (hb : noCall o = true) (hline : (apos.endLine == pos.line) = true) :
    PE X (.Call (.Attribute o "join" apos) [e] [] pos) (dn (kf X) xw (fun env => do
      let x ← mo env
      fun h => lift (mtT h .join x) h
      let vs ← (fun env => do let v ← me env; let vs ← (fun _ h => .ok [] h : Ev → M (List PV)) env; pure (v :: vs) : Ev → M (List PV)) env
      mtV .join x vs) false) := by
  refine PE.mono (pe_join ho he (by rw [star_one hs]; rfl) (base_ok hb) hline) fun σ H Q ⟨B, ρ, h, env, s, er, q⟩ => dn_seq s er q fun x h1 ρ1 H1 v e1 s1 er1 r1 _ q => ?_
  have q : Post (kf X) B (xw σ) ρ1 H1 (((fun h => lift (mtT h .join x) h) >>= fun _ => (((fun env => do let v ← me env; let vs ← (fun _ h => .ok [] h : Ev → M (List PV)) env; pure (v :: vs) : Ev → M (List PV)) env) >>= fun vs => mtV .join x vs) : M PV) h1) _ := q
  have q := q.bind
  have q : Post (kf X) B (xw σ) ρ1 H1 (lift (mtT h1 .join x) h1) _ := q
  obtain ⟨t, rfl⟩ : ∃ t, x = .str t := by
    cases x <;> first | exact ⟨_, rfl⟩ | exact q.elim
  have q := (q ρ1 H1 (Ext.refl _ _) s1).bind
  refine ⟨⟨t, r1.str_inv⟩, dn_seq s1 er1 q fun y h2 ρ2 H2 w e2 s2 _ r2 _ q => ?_⟩
  have q : Post (kf X) B (xw σ) ρ2 H2 (mJoin (.str t) [y] h2) _ := (q.bind ρ2 H2 (Ext.refl _ _) s2 : Post (kf X) B (xw σ) ρ2 H2 ((Pure.pure [y] : M (List PV)) h2) _).pure s2
  unfold mJoin at q
  split at q
  · rename_i a y' h1' h2'
    cases h1'; cases h2'
    split at q
    · rename_i ys hys
      split at q
      · rename_i hz
        cases hsq : seqOf h2 y with
        | none => rw [hsq] at hys; cases hys
        | some l =>
          rw [hsq] at hys
          have hys : strsOf l = some ys := hys
          obtain ⟨b, ws, rfl, hq, _, rs⟩ := seq_at s2 r2 hsq
          have := strs_V hys rs
          subst this
          exact ⟨t, b, ys, r1.str_inv, rfl, hq, hz, q ρ2 H2 (Ext.refl _ _) s2 _ Rel.str_mk (fun a => by cases a)⟩
      · exact q.elim
    · exact q.elim
  · rename_i hno; exact (hno t y rfl rfl).elim
end
end Y

/-! K5b: calls of own functions -/
namespace Y
open PySem PySem.Spec PyProof.Rows L2

section
variable (K : KF) (eo : XK → XW)
/-- a function's promise by a run -/
def spOf (cf : List PV → M PV) (n : Nat) : Sp := fun vs H Q E => vs.length = n ∧ ∃ B ρ h args, SR K B ρ h H ∧ Rels K B ρ H args vs ∧ Post K B (eo E) ρ H (cf args h) fun p _ ρ' H' => ∀ v, Rel K B ρ' H' p v → Q v H'
/-- what is wanted of an exception looks at data alone -/
def EoOk : Prop := ∀ E c fs ρ1 ρ2 H, dats fs = true → eo E c fs ρ1 H → eo E c fs ρ2 H
end
section
variable {X : Cx} {eo : XK → XW} {B : Addr → Prop} {ρ : List Addr} {h : Hh} {H : Hp}
theorem rels_all {B2 : Addr → Prop} {ρ2 : List Addr} (hf : ∀ (p q : PV) (v : V), frz h frzD p = some q → Rel (kf X) B ρ H p v → Rel (kf X) B2 ρ2 H q v) : ∀ (ps qs : List PV) (vs : List V), ps.mapM (frz h frzD) = some qs → Rels (kf X) B ρ H ps vs → Rels (kf X) B2 ρ2 H qs vs
  | [], qs, vs, e, r => by
    simp at e
    subst e
    rw [r.nil_inv]; exact Rels.nil
  | p :: ps, qs, vs, e, r => by
    obtain ⟨w, ws, rfl, a, b⟩ := r.cons_inv
    rw [List.mapM_cons] at e
    cases h1 : frz h frzD p with
    | none => rw [h1] at e; simp at e
    | some q =>
      cases h2 : ps.mapM (frz h frzD) with
      | none => rw [h1, h2] at e; simp at e
      | some qs' =>
        rw [h1, h2] at e
        simp at e
        subst e
        exact Rels.cons (hf p q w h1 a) (rels_all hf ps qs' ws h2 b)
theorem frz_imm {p : PV} (e : imm p = true) : frz h frzD p = some p := by
  show frz h (3 + 1) p = some p
  unfold frz
  rw [if_pos e]
theorem frzs_imm : ∀ {ps : List PV}, imms ps = true → ps.mapM (frz h frzD) = some ps
  | [], _ => rfl
  | p :: ps, e => by
    simp only [imms, Bool.and_eq_true] at e
    rw [List.mapM_cons, frz_imm e.1, frzs_imm e.2]
    rfl
/-- behind a call that wrote nothing of ours -/
theorem ext_all {ρ1 : List Addr} {H1 : Hp} (e : Ext [] H ρ1 H1) : Ext ρ H ρ H1 :=
  ⟨⟨[], by simp⟩, fun a o q n => ⟨(e.keep a o q (by simp)).1, n⟩, fun a vs q => e.tup a vs q⟩
theorem sr_all {ρ1 : List Addr} {H1 : Hp} (s : SR (kf X) B ρ h H) (e : Ext [] H ρ1 H1) : SR (kf X) B ρ h H1 := by
  refine ⟨s.len, s.nd, fun a b => ?_, fun i o a h1 h2 => ?_⟩
  · obtain ⟨n, o, q⟩ := s.bnd a b
    exact ⟨n, o, (e.keep a o q (by simp)).1⟩
  · have q := s.ob i o a h1 h2
    have : ∃ u, H a = some u := by
      cases o with
      | lst xs => obtain ⟨_, q, _⟩ := q; exact ⟨_, q⟩
      | dct ks vs => obtain ⟨_, q, _⟩ := q; exact ⟨_, q⟩
    obtain ⟨u, hu⟩ := this
    exact q.mono (ext_all e) (by rw [hu]; exact (e.keep a u hu (by simp)).1)
/-- a call by the evaluator, told to the function's promise -/
theorem call_sp {cf : CF} {raw : Bool} {i n : Nat} {as : List PV} {vs : List V} {E : XK} {Q : VK} (heo : EoOk eo) (s : SR (kf X) B ρ h H) (rs : Rels (kf X) B ρ H as vs) (hn : vs.length = n)
    (p : Post (kf X) B (eo E) ρ H (callM cf raw i as h) fun p _ ρ' H' => ∀ v, Rel (kf X) B ρ' H' p v → Q v H') : spOf (kf X) eo (cf i) n vs H Q E := by
  unfold callM at p
  cases raw with
  | true => exact ⟨hn, B, ρ, h, as, s, rs, p⟩
  | false =>
    rw [if_neg Bool.false_ne_true] at p
    unfold callP at p
    cases ha : as.mapM (frz h frzD) with
    | none => rw [ha] at p; exact p.elim
    | some bs =>
      rw [ha] at p
      have p : Post (kf X) B (eo E) ρ H (match cf i bs [] with
        | .ok v h1 => match frz h1 frzD v with
          | some v' => if imms as || dat v' then .ok v' h else .err
          | none => .err
        | .ex c fs _ => if dats fs then .ex c fs h else .err
        | .err => .err) _ := p
      by_cases im : imms as = true
      · rw [frzs_imm im] at ha
        cases ha
        refine ⟨hn, fun a => B a ∨ a ∈ ρ, [], [], as, ⟨rfl, List.nodup_nil, fun a b => ⟨by simp, ?_⟩, fun i o a h1 h2 => by simp at h1⟩, imms_rel (fun a b c => ⟨by rintro (z | z); exact b z; exact c z, by simp⟩) as vs im rs, ?_⟩
        · rcases b with b | b
          · exact (s.bnd a b).2
          · obtain ⟨j, hj⟩ := List.getElem?_of_mem b
            have hl : j < h.length := by rw [← s.len]; exact (List.getElem?_eq_some_iff.mp hj).1
            have q := s.ob j h[j] a (List.getElem?_eq_getElem hl) hj
            generalize h[j] = o at q
            cases o with
            | lst xs => obtain ⟨_, q, _⟩ := q; exact ⟨_, q⟩
            | dct ks vs => obtain ⟨_, q, _⟩ := q; exact ⟨_, q⟩
        · cases hc : cf i as [] with
          | err => rw [hc] at p; exact p.elim
          | ex c fs h1 =>
            rw [hc] at p
            dsimp only at p
            split at p
            · rename_i hd
              intro ρ1 H1 e1 s1
              exact heo E c fs ρ ρ1 H1 hd (p ρ H1 (ext_all e1) (sr_all s e1))
            · exact p.elim
          | ok v h1 =>
            rw [hc] at p
            dsimp only at p
            intro ρ1 H1 e1 s1 w rw_
            split at p
            · rename_i v' hv
              rw [im, Bool.true_or, if_pos rfl] at p
              have p := p ρ H1 (ext_all e1) (sr_all s e1)
              refine p w (frz_rel s1 (fun a b c => ⟨fun z => b (.inl z), fun z => b (.inr z)⟩) (fun a m => ?_) frzD v v' w hv rw_)
              have hno : ¬ (B a ∨ a ∈ ρ) := fun z => (s1.bnd a z).1 m
              exact ⟨fun z => hno (.inl z), fun z => hno (.inr z)⟩
            · exact p.elim
      · refine ⟨hn, fun _ => False, [], [], bs, ⟨rfl, List.nodup_nil, fun a b => b.elim, fun i o a h1 h2 => by simp at h1⟩, rels_all (fun p q v e r => frz_any s frzD p q v e r) as bs vs ha rs, ?_⟩
        cases hc : cf i bs [] with
        | err => rw [hc] at p; exact p.elim
        | ex c fs h1 =>
          rw [hc] at p
          dsimp only at p
          split at p
          · rename_i hd
            intro ρ1 H1 e1 s1
            exact heo E c fs ρ ρ1 H1 hd (p ρ H1 (ext_all e1) (sr_all s e1))
          · exact p.elim
        | ok v h1 =>
          rw [hc] at p
          dsimp only at p
          intro ρ1 H1 e1 s1 w rw_
          split at p
          · rename_i v' hv
            split at p
            · rename_i hi
              rw [Bool.or_eq_true] at hi
              have hd : dat v' = true := hi.resolve_left im
              have p := p ρ H1 (ext_all e1) (sr_all s e1)
              exact p w (dat_rel v' w hd (frz_any s1 frzD v v' w hv rw_))
            · exact p.elim
          · exact p.elim
end
section
variable {X : Cx} {eo : XK → XW} {CX : CXT} {k : Nat} {f : Addr} {fd : FuncData} {ps : List Str} {E : L2.St → XK} {x : Str} {p pos : Pos}
theorem d_call {cf : CF} {raw : Bool} {i : Nat} {e : Expr} {es : List Expr} {m : Ev → M (List PV)} (heo : EoOk eo) (F : FnOk X.prog X.w X.K X.mg X.base CX k f fd ps (spOf (kf X) eo (cf i) ps.length)) (hr : Room k X.A) (hg : Gl X x) (hm : X.mg x = some (.ref f)) (hk : PySem.W.keepIn X.K (.ref f) = true)
    (hb : Binds X.K fd ps []) (hx : ∀ σ, PassesAt CX X σ (E σ)) (ha : PA X (e :: es) (dnL (kf X) (fun σ => eo (E σ)) m)) (hdb : (x == ("__debug__" : Str)) = false) (hs : (e :: es).all noStar = true) (hl : (e :: es).length = ps.length) (hlen : ∀ env h vs h', m env h = .ok vs h' → vs.length = (e :: es).length) :
    PE X (.Call (.Name x p) (e :: es) [] pos) (dn (kf X) (fun σ => eo (E σ)) (fun env => do let vs ← m env; callM cf raw i vs) false) := by
  rw [List.all_cons, Bool.and_eq_true] at hs
  refine PE.mono (pe_callS F hr hg hm hk hb hx ha hdb (star_one hs.1) (star_none hs.2)) fun σ H Q ⟨B, ρ, h, env, s, er, q⟩ => ⟨B, ρ, h, env, s, er, q.bind.eqn.imp fun xs h1 ρ1 H1 e1 s1 ⟨em, q⟩ vs rs => ?_⟩
  exact call_sp heo s1 rs (by rw [← rs.length, hlen env h xs h1 em, hl]) (q.imp fun p h2 ρ2 H2 e2 s2 z v r => z v r (fun a => by cases a))
end
end Y

/-! K5c: calls without positional arguments -/
namespace Y
open PySem PySem.Spec PyProof.Rows L2

section
variable {X : Cx} {xw : L2.St → XW}
def kwAll (kws : List Keyword) : Bool := kws.all fun | ⟨some _, _, _⟩ => true | ⟨none, _, _⟩ => false
def kwNames (kws : List Keyword) : List Str := kws.filterMap fun | ⟨n, _, _⟩ => n
def kwVals (kws : List Keyword) : List Expr := kws.map fun | ⟨_, e, _⟩ => e
theorem kw_all {kws : List Keyword} {pos : Pos} {env : Env} (h : kwAll kws = true) : (backToKw pos (keywordEach kws env)).all (·.1.isSome) = true := by
  induction kws with
  | nil => rfl
  | cons k kws ih =>
    obtain ⟨n, e, p⟩ := k
    unfold kwAll at h
    rw [List.all_cons, Bool.and_eq_true] at h
    cases n with
    | none => exact absurd h.1 (by simp)
    | some n =>
      show (true && (backToKw pos (keywordEach kws env)).all (·.1.isSome)) = true
      rw [ih h.2]; rfl
theorem kw_none {kws : List Keyword} {pos : Pos} {env : Env} (h : kwAll kws = true) : (backToKw pos (keywordEach kws env)).any (·.1.isNone) = false := by
  induction kws with
  | nil => rfl
  | cons k kws ih =>
    obtain ⟨n, e, p⟩ := k
    unfold kwAll at h
    rw [List.all_cons, Bool.and_eq_true] at h
    cases n with
    | none => exact absurd h.1 (by simp)
    | some n =>
      show (false || (backToKw pos (keywordEach kws env)).any (·.1.isNone)) = false
      rw [ih h.2]; rfl
theorem kw_names {kws : List Keyword} {pos : Pos} {env : Env} : (backToKw pos (keywordEach kws env)).filterMap (·.1) = kwNames kws := by
  induction kws with
  | nil => rfl
  | cons k kws ih =>
    obtain ⟨n, e, p⟩ := k
    show List.filterMap (·.1) ((n, _) :: backToKw pos (keywordEach kws env)) = _
    cases n with
    | none => exact ih
    | some n =>
      show n :: _ = n :: _
      congr 1
theorem PK.mono {kws : List Keyword} {t t' : TA} (p : PK X kws t) (h : ∀ σ H Q, t' σ H Q → t σ H Q) : PK X kws t' := ⟨fun pos pins s σ H Q I hw => p.run pos pins s σ H Q I (h σ H Q hw)⟩
theorem dk_nil : PK X [] (dnL (kf X) xw (fun _ h => .ok [] h)) :=
  PK.mono pk_nil fun σ H Q ⟨B, ρ, h, env, s, er, q⟩ => q ρ H (Ext.refl _ _) s [] Rels.nil
theorem dk_cons {n : Option Str} {e : Expr} {p : Pos} {es : List Keyword} {m : Ev → M PV} {ms : Ev → M (List PV)} {fr : Bool} (he : PE X e (dn (kf X) xw m fr)) (hs : PK X es (dnL (kf X) xw ms)) :
    PK X (⟨n, e, p⟩ :: es) (dnL (kf X) xw (fun env => do let v ← m env; let vs ← ms env; pure (v :: vs))) :=
  PK.mono (pk_cons he hs) fun σ H Q ⟨B, ρ, h, env, s, er, q⟩ => dn_seq s er q fun x h1 ρ1 H1 v e1 s1 er1 r _ q => dnL_seq s1 er1 q fun xs h2 ρ2 H2 vs e2 s2 _ rs q => by
    rw [pure_eq] at q
    exact q ρ2 H2 (Ext.refl _ _) s2 (v :: vs) (Rels.cons (r.mono e2) rs)
end
structure KwB (K : PySem.W.Frag) (fd : FuncData) (ps ks : List Str) (perm : List Nat) : Prop where
  to : ∀ (s : Shared) (us ws : List Value), K.In s.heap → us.length = ks.length → permL perm us = some ws → BindsTo s fd ⟨[], ks.zip us⟩ (ps.zip ws)
section
variable {X : Cx} {eo : XK → XW} {CX : CXT} {k : Nat} {f : Addr} {fd : FuncData} {ps : List Str} {E : L2.St → XK} {x : Str} {p pos : Pos}
theorem vals_get : ∀ {vs : List V} {us : List Value} {i : Nat} {v : V}, Vals vs us → vs[i]? = some v → ∃ u, us[i]? = some u ∧ RelV v u
  | _, _, i, v, .nil, e => by simp at e
  | _, _, 0, v, .cons r t, e => by simp at e; subst e; exact ⟨_, rfl, r⟩
  | _, _, i + 1, v, .cons r t, e => by simpa using vals_get t (by simpa using e)
theorem bind_ex {α β} {m : M α} {k : α → M β} {h h1 : Hh} {c : Nat} {fs : List PV} (e : m h = .ex c fs h1) : (m >>= k) h = .ex c fs h1 := by
  show (match m h with | .ok a h' => k a h' | .ex c fs h' => .ex c fs h' | .err => .err) = _
  rw [e]
theorem bind_err {α β} {m : M α} {k : α → M β} {h : Hh} (e : m h = .err) : (m >>= k) h = .err := by
  show (match m h with | .ok a h' => k a h' | .ex c fs h' => .ex c fs h' | .err => .err) = _
  rw [e]
theorem perm_vals {perm : List Nat} {vs : List V} {us : List Value} (r : Vals vs us) : ∀ {ws : List V}, permL perm vs = some ws → ∃ zs, permL perm us = some zs ∧ Vals ws zs := by
  unfold permL
  induction perm with
  | nil => intro ws e; simp at e; subst e; exact ⟨[], rfl, .nil⟩
  | cons i perm ih =>
    intro ws e
    rw [List.mapM_cons] at e
    cases h1 : vs[i]? with
    | none => rw [h1] at e; simp at e
    | some v =>
      cases h2 : perm.mapM fun i => vs[i]? with
      | none => rw [h1, h2] at e; simp at e
      | some ws' =>
        rw [h1, h2] at e
        simp at e
        subst e
        obtain ⟨u, hu, ru⟩ := vals_get r h1
        obtain ⟨zs, hz, rz⟩ := ih h2
        refine ⟨u :: zs, ?_, .cons ru rz⟩
        rw [List.mapM_cons, hu, hz]
        rfl
theorem perm_rels {K : KF} {B : Addr → Prop} {ρ : List Addr} {H : Hp} {perm : List Nat} {xs : List PV} {vs : List V} (r : Rels K B ρ H xs vs) : ∀ {as : List PV}, permL perm xs = some as → ∃ ws, permL perm vs = some ws ∧ Rels K B ρ H as ws := by
  unfold permL
  induction perm with
  | nil => intro ws e; simp at e; subst e; exact ⟨[], rfl, Rels.nil⟩
  | cons i perm ih =>
    intro ws e
    rw [List.mapM_cons] at e
    cases h1 : xs[i]? with
    | none => rw [h1] at e; simp at e
    | some v =>
      cases h2 : perm.mapM fun i => xs[i]? with
      | none => rw [h1, h2] at e; simp at e
      | some ws' =>
        rw [h1, h2] at e
        simp at e
        subst e
        obtain ⟨u, hu, ru⟩ := r.get h1
        obtain ⟨zs, hz, rz⟩ := ih h2
        refine ⟨u :: zs, ?_, Rels.cons ru rz⟩
        rw [List.mapM_cons, hu, hz]
        rfl
theorem d_call0 {cf : CF} {raw : Bool} {i : Nat} (heo : EoOk eo) (F : FnOk X.prog X.w X.K X.mg X.base CX k f fd ps (spOf (kf X) eo (cf i) ps.length)) (hr : Room k X.A) (hg : Gl X x) (hm : X.mg x = some (.ref f)) (hk : PySem.W.keepIn X.K (.ref f) = true)
    (hb : Binds X.K fd ps []) (hx : ∀ σ, PassesAt CX X σ (E σ)) (hdb : (x == ("__debug__" : Str)) = false) (hl : ps.length = 0) :
    PE X (.Call (.Name x p) [] [] pos) (dn (kf X) (fun σ => eo (E σ)) (fun env => do let vs ← (fun _ h => .ok [] h : Ev → M (List PV)) env; callM cf raw i vs) false) := by
  refine ⟨fun pins s σ H Q I ⟨B, ρ, h, env, s1, er, q⟩ => ?_⟩
  refine wpAny_Call_Name_kw (ld_glob I hg hm ?_ hdb)
  refine PySem.W.callWith_K0 I.kIn hk (run_fnS (us := []) F hr hb (hx σ) I .nil ?_)
  have q : Post (kf X) B (eo (E σ)) ρ H (callM cf raw i [] h) _ := q.bind ρ H (Ext.refl _ _) s1
  exact call_sp heo s1 Rels.nil (by rw [hl]; rfl) (q.imp fun p h2 ρ2 H2 e2 s2 z v r => z v r (fun a => by cases a))
/-- f(k = v, ..) -/
theorem d_callk {cf : CF} {raw : Bool} {i : Nat} {kws : List Keyword} {perm : List Nat} {ks : List Str} {m : Ev → M (List PV)} (heo : EoOk eo) (F : FnOk X.prog X.w X.K X.mg X.base CX k f fd ps (spOf (kf X) eo (cf i) ps.length)) (hr : Room k X.A) (hg : Gl X x) (hm : X.mg x = some (.ref f)) (hk : PySem.W.keepIn X.K (.ref f) = true)
    (hb : KwB X.K fd ps ks perm) (hx : ∀ σ, PassesAt CX X σ (E σ)) (ha : PK X kws (dnL (kf X) (fun σ => eo (E σ)) m)) (hdb : (x == ("__debug__" : Str)) = false) (hall : kwAll kws = true) (hks : kwNames kws = ks) (hl : perm.length = ps.length) (hlen : ∀ env h vs h', m env h = .ok vs h' → vs.length = ks.length) :
    PE X (.Call (.Name x p) [] kws pos) (dn (kf X) (fun σ => eo (E σ)) (fun env => do
      let vs ← m env
      match permL perm vs with
      | some ws => callM cf raw i ws
      | none => M.err) false) := by
  refine ⟨fun pins s σ H Q I ⟨B, ρ, h, env, sr, er, q⟩ => ?_⟩
  refine wpAny_Call_Name_kw (ld_glob I hg hm ?_ hdb)
  refine PySem.W.callWith_KW0 (h₀ := X.base) I.ok.mod.kin hk (kw_all hall) ?_ (by rw [kw_none hall]; rfl)
  refine thn (ha.run pos pins s σ H (fun vs H1 => ∃ ws, vs.length = ks.length ∧ permL perm vs = some ws ∧ spOf (kf X) eo (cf i) ps.length ws H1 Q (E σ)) I ⟨B, ρ, h, env, sr, er, q.bind.eqn.imp fun xs h1 ρ1 H1 e1 s1 ⟨em, q⟩ vs rs => ?_⟩) fun us s2 ⟨vs, H2, I2, rz, ws, hlv, hp, q2⟩ => ⟨I2.kIn, ?_⟩
  · cases hp : permL perm xs with
    | none => simp only [hp] at q; exact q.elim
    | some as =>
      simp only [hp] at q
      obtain ⟨ws, hw, rw_⟩ := perm_rels rs hp
      refine ⟨ws, by rw [← rs.length]; exact hlen env h xs h1 em, hw, call_sp heo s1 rw_ ?_ (q.imp fun p h2 ρ2 H2 e2 s2 z v r => z v r (fun a => by cases a))⟩
      have : ∀ (perm : List Nat) (ws : List V), permL perm vs = some ws → ws.length = perm.length := by
        intro perm
        unfold permL
        induction perm with
        | nil => intro ws e; simp at e; subst e; rfl
        | cons i perm ih =>
          intro ws e
          rw [List.mapM_cons] at e
          cases h1 : vs[i]? with
          | none => rw [h1] at e; simp at e
          | some v =>
            cases h2 : perm.mapM fun i => vs[i]? with
            | none => rw [h1, h2] at e; simp at e
            | some ws' =>
              rw [h1, h2] at e
              simp at e
              subst e
              simp [ih ws' h2]
      rw [this perm ws hw, hl]
  · obtain ⟨zs, hz, rzs⟩ := perm_vals rz hp
    rw [kw_names, hks]
    show wpAny _ _ (call (.ref f) [] (ks.zip us)) _ _ _
    have b := hb.to s2 us zs I2.kIn (by rw [← rz.length]; exact hlv) hz
    refine wpAny_call (codeAny_mono (F.run X.A X.stack s2 H2 ⟨[], ks.zip us⟩ zs ws Q (E σ) hr I2.env0 b rzs q2) fun r s' hq => ?_)
    cases r with
    | error e => exact hx σ pins H2 s2 e s' I2 hq
    | ok fl =>
      cases fl with
      | ret u => exact I2.after hq
      | next => exact False.elim hq
      | brk => exact False.elim hq
      | cont => exact False.elim hq
/-- a fresh frozen thing becomes ours -/
theorem box_wp {xw : L2.St → XW} {m : Ev → M PV} (σ : L2.St) (H : Hp) (Q : VK) : dn (kf X) xw (fun env => do
      let v ← m env
      boxM v) false σ H Q → dn (kf X) xw m true σ H Q :=
  fun ⟨B, ρ, h, env, s, er, q⟩ => ⟨B, ρ, h, env, s, er, by
    have q : Post (kf X) B (xw σ) ρ H ((m env >>= boxM) h) _ := q
    cases hm : m env h with
    | err => rw [bind_err hm] at q; exact q.elim
    | ex c fs h1 => rw [bind_ex hm] at q; exact q
    | ok x h1 =>
      rw [bind_ok hm] at q
      intro ρ1 H1 e1 s1 v r fv
      have fin : ∀ a, v = .ref a → H a = none ∧ Fresh (kf X) B ρ1 h1 H1 x a → (Post (kf X) B (xw σ) ρ H (.ok (.ref h1.length) (h1 ++ [obOf x]) : R PV) fun p h' ρ' H' => ∀ v, Rel (kf X) B ρ' H' p v → freshV (kf X) B false p v H ρ' h' H' → Q v H') → Q v H1 := by
        rintro a rfl ⟨f, fr⟩ q
        refine q (ρ1 ++ [a]) H1 (e1.adopt f) fr (.ref a) ?_ (fun a => by cases a)
        simp only [Rel]
        exact ⟨a, by rw [← s1.len, List.getElem?_append_right (Nat.le_refl _), Nat.sub_self]; rfl, rfl⟩
      cases x with
      | lst l =>
        obtain ⟨a, _, ea, _⟩ := r.lst_inv
        exact fin a ea (fv rfl rfl a ea) q
      | dct ks vs =>
        obtain ⟨a, _, ea, _⟩ := r.dct_inv
        exact fin a ea (fv rfl rfl a ea) q
      | _ => exact q.elim⟩
theorem d_box {xw : L2.St → XW} {e : Expr} {m : Ev → M PV} (he : PE X e (dn (kf X) xw m true)) : PE X e (dn (kf X) xw (fun env => do
      let v ← m env
      boxM v) false) := PE.mono he box_wp
end
end Y

/-! K5d: dict displays, dict.get, zip -/
namespace Y
open PySem PySem.Spec PyProof.Rows L2

def flatP : List (V × V) → List V
  | [] => []
  | p :: r => p.1 :: p.2 :: flatP r
section
variable {X : Cx} {xw : L2.St → XW} {B : Addr → Prop}
/-- the pairs of a display by a run -/
def dnP (K : KF) (xw : L2.St → XW) (m : Ev → M (List PV)) : L2.St → Hp → (List (V × V) → Hp → Prop) → Prop := fun σ H Q => ∃ B ρ h env, SR K B ρ h H ∧ EnvR K B ρ H env σ ∧ Post K B (xw σ) ρ H (m env h) fun xs _ ρ' H' => ∀ ps, Rels K B ρ' H' xs (flatP ps) → Q ps H'
structure DPs (X : Cx) (xw : L2.St → XW) (pos : Pos) (keys : List (Option Expr)) (values : List Expr) (m : Ev → M (List PV)) : Prop where
  ex : ∃ trs, PPs X pos keys values trs ∧ ∀ σ H Q, dnP (kf X) xw m σ H Q → tPairs trs σ H Q
theorem dp_nil {pos : Pos} : DPs X xw pos [] [] (fun _ h => .ok [] h) := ⟨[], pps_nil, fun σ H Q ⟨B, ρ, h, env, s, er, q⟩ => q ρ H (Ext.refl _ _) s [] Rels.nil⟩
theorem dp_cons {pos : Pos} {k v : Expr} {ks : List (Option Expr)} {vs : List Expr} {mk mv : Ev → M PV} {fk fv : Bool} {ms : Ev → M (List PV)} (hk : PE X k (dn (kf X) xw mk fk)) (hv : PE X v (dn (kf X) xw mv fv)) (hr : DPs X xw pos ks vs ms) :
    DPs X xw pos (some k :: ks) (v :: vs) (fun env => do let x ← mk env; let r ← (do let y ← mv env; let r ← ms env; pure (y :: r)); pure (x :: r)) := by
  obtain ⟨trs, hp, ht⟩ := hr.ex
  refine ⟨_, pps_cons hk hv hp, fun σ H Q ⟨B, ρ, h, env, s, er, q⟩ => ?_⟩
  refine dn_seq s er q fun x h1 ρ1 H1 v1 e1 s1 er1 r1 _ q => ?_
  have q := q.bind
  refine dn_seq s1 er1 q fun y h2 ρ2 H2 v2 e2 s2 er2 r2 _ q => ?_
  refine ht _ _ _ ⟨B, ρ2, h2, env, s2, er2, q.bind.imp fun xs h3 ρ3 H3 e3 s3 q ps rs => ?_⟩
  have q := (Post.pure q s3).pure s3
  exact q ((v1, v2) :: ps) (Rels.cons ((r1.mono e2).mono e3) (Rels.cons (r2.mono e3) rs))
theorem merge_V {ρ : List Addr} {H : Hp} : ∀ (ps : List (V × V)) (xs : List PV) (acc : List (Key × V)) (ws : List PV) (d : List PV × List PV), Rels (kf X) B ρ H xs (flatP ps) → Rels (kf X) B ρ H ws (acc.map (·.2)) → dctF xs (acc.map (fun p => keyP p.1), ws) = some d →
    ∃ kvs : List (Key × V), ps = kvs.map (fun kv => (kV kv.1, kv.2)) ∧ d.1 = (mergeK acc kvs).map (fun p => keyP p.1) ∧ Rels (kf X) B ρ H d.2 ((mergeK acc kvs).map (·.2))
  | [], xs, acc, ws, d, r, ra, e => by
    have : xs = [] := by
      cases xs with
      | nil => rfl
      | cons x xs => obtain ⟨_, _, z, _⟩ := r.cons_inv; cases z
    subst this
    unfold dctF at e
    cases e
    exact ⟨[], rfl, rfl, ra⟩
  | p :: ps, xs, acc, ws, d, r, ra, e => by
    cases xs with
    | nil => have := r.nil_inv; cases this
    | cons x xs =>
      obtain ⟨w, us, z, a, b⟩ := r.cons_inv
      cases z
      cases xs with
      | nil => have := b.nil_inv; cases this
      | cons y xs =>
        obtain ⟨w, us, z, a2, b⟩ := b.cons_inv
        cases z
        unfold dctF at e
        split at e <;> try contradiction
        rename_i hk
        obtain ⟨h1, h2, _⟩ := put_V (X := X) (B := B) (ρ := ρ) (H := H) hk ra a2
        have e : dctF xs ((dput x y (acc.map fun p => keyP p.1) ws).1, (dput x y (acc.map fun p => keyP p.1) ws).2) = some d := e
        rw [h1] at e
        obtain ⟨kvs, ep, e1, e2⟩ := merge_V ps xs (putK acc (toK x) p.2) _ d b h2 e
        refine ⟨(toK x, p.2) :: kvs, ?_, e1, e2⟩
        rw [List.map_cons, ← ep, ← key_V hk a]
theorem fresh_dct {ρ : List Addr} {h : Hh} {H : Hp} {ks ws : List PV} {kvs : List (Key × V)} {p : Addr} (s : SR (kf X) B ρ h H) (f : H p = none) (z : kvs.length ≤ SZ) (hk : ks = kvs.map (fun p => keyP p.1)) (r : Rels (kf X) B ρ H ws (kvs.map (·.2))) : Fresh (kf X) B ρ h (upd H p (.dK kvs)) (.dct ks ws) p :=
  s.own f ⟨kvs, upd_same, z, hk, r.mono (Ext.own f)⟩
theorem Rel.dct_new {ρ : List Addr} {h : Hh} {H : Hp} {ks ws : List PV} {kvs : List (Key × V)} {p : Addr} (s : SR (kf X) B ρ h H) (f : H p = none) (z : kvs.length ≤ SZ) (hk : ks = kvs.map (fun p => keyP p.1)) (r : Rels (kf X) B ρ H ws (kvs.map (·.2))) : Rel (kf X) B ρ (upd H p (.dK kvs)) (.dct ks ws) (.ref p) := by
  simp only [Rel]
  exact ⟨p, kvs, rfl, ⟨upd_same, s.free f, s.notB f⟩, z, hk, r.mono (Ext.new f)⟩
theorem fresh_wD {D : Addr} {ρ : List Addr} {h : Hh} {H : Hp} {o : Ob} (s : SR (kf X) (wD B D) ρ h H) (nB : ¬ B D) (q : ObR (kf X) (wD B D) ρ H D o) : SR (kf X) B (ρ ++ [D]) (h ++ [o]) H := by
  have nD : D ∉ ρ := (s.bnd D (.inr rfl)).1
  refine ⟨by simp [s.len], ?_, fun b hb => ?_, fun i o' a e1 r => ?_⟩
  · rw [List.nodup_append]
    refine ⟨s.nd, by simp, fun x hx y hy => ?_⟩
    simp at hy
    subst hy
    rintro rfl
    exact nD hx
  · obtain ⟨n, o, q⟩ := s.bnd b (.inl hb)
    have : b ≠ D := by rintro rfl; exact nB hb
    exact ⟨by simp [n, this], o, q⟩
  · by_cases hi : i < h.length
    · rw [List.getElem?_append_left hi] at e1
      rw [List.getElem?_append_left (by rw [s.len]; exact hi)] at r
      exact (s.ob i o' a e1 r).swap
    · have hl : i = h.length := by
        have := (List.getElem?_eq_some_iff.mp e1).1
        simp at this
        omega
      subst hl
      rw [List.getElem?_append_right (Nat.le_refl _), Nat.sub_self] at e1
      rw [List.getElem?_append_right (by rw [s.len]; exact Nat.le_refl _), s.len, Nat.sub_self] at r
      simp at e1 r
      subst e1 r
      exact q.swap
theorem flatP_length : ∀ ps : List (V × V), (flatP ps).length = 2 * ps.length
  | [] => rfl
  | p :: r => by simp [flatP, flatP_length r]; omega
theorem d_dnew {pos : Pos} : PE X (.Dict [] [] pos) (dn (kf X) xw (fun env => do let r ← (fun _ h => .ok [] h : Ev → M (List PV)) env; lift (dctV r)) true) :=
  PE.mono pe_dnewK fun σ H Q ⟨B, ρ, h, env, s, er, q⟩ => fun p f => by
    have q : Post (kf X) B (xw σ) ρ H (.ok (.dct [] []) h : R PV) _ := q.bind ρ H (Ext.refl _ _) s
    exact q ρ _ (Ext.new f) (s.new f) _ (Rel.dct_new s f (Nat.zero_le _) rfl Rels.nil) (fun _ _ a ea => by cases ea; exact ⟨f, fresh_dct s f (Nat.zero_le _) rfl Rels.nil⟩)
theorem d_disp {pos : Pos} {keys : List (Option Expr)} {values : List Expr} {m : Ev → M (List PV)} (hp : DPs X xw pos keys values m) (hall : keys.all (·.isSome) = true) (hl : keys.length = values.length) (h0 : keys ≠ []) (h15 : keys.length ≤ 15) (hlen : ∀ env h vs h', m env h = .ok vs h' → vs.length = 2 * keys.length) :
    PE X (.Dict keys values pos) (dn (kf X) xw (fun env => do let r ← m env; lift (dctV r)) true) := by
  obtain ⟨trs, hp, ht⟩ := hp.ex
  refine PE.mono (pe_disp hp hall hl h0 h15) fun σ H Q ⟨B, ρ, h, env, s, er, q⟩ => fun p f => ?_
  have al : Alike B (wD B p) ρ H (upd H p (.dK [])) := alike_new f
  have s0 : SR (kf X) (wD B p) ρ h (upd H p (.dK [])) := s.alike al (fun a m => upd_ne (by rintro rfl; exact s.free f m)) (fun a b => by
    rcases b with b | rfl
    · refine ⟨(s.bnd a b).1, ?_⟩
      obtain ⟨o, e⟩ := (s.bnd a b).2
      exact ⟨o, by rw [upd_ne (ne_of_none e f)]; exact e⟩
    · exact ⟨s.free f, _, upd_same⟩)
  refine ht _ _ _ ⟨wD B p, ρ, h, env, s0, er.alike al, ?_⟩
  have q : Post (kf X) B (xw σ) ρ H ((m env >>= fun r => lift (dctV r)) h) _ := q
  have nB : ¬ B p := s.notB f
  cases hm : m env h with
  | err => rw [bind_err hm] at q; exact q.elim
  | ex c fs h1 =>
    rw [bind_ex hm] at q
    intro ρ1 H1 e1 s1
    have less : Alike (wD B p) B ρ1 H1 H1 := ⟨fun a o q n b => ⟨q, fun z => b (.inl z)⟩, fun _ _ q => q⟩
    exact q ρ1 H1 ((Ext.new f).trans e1) (s1.alike less (fun _ _ => rfl) (fun a b => s1.bnd a (.inl b)))
  | ok xs h1 =>
    rw [bind_ok hm] at q
    intro ρ1 H1 e1 s1 ps rs
    have hH1 : H1 p = some (.dK []) := (e1.keep p _ upd_same (s.free f)).1
    cases hd : dctF xs ([], []) with
    | none => simp only [dctV, hd] at q; exact q.elim
    | some d =>
      have ed : dctV xs = some (.dct d.1 d.2) := by simp only [dctV, hd]; rfl
      rw [ed] at q
      obtain ⟨kvs, ep, e2, e3⟩ := merge_V (X := X) (B := wD B p) ps xs [] [] d rs Rels.nil hd
      have hlen2 : kvs.length = keys.length := by
        have a1 := rs.length
        rw [flatP_length, hlen env h xs h1 hm, ep, List.length_map] at a1
        omega
      have hz : (mergeK [] kvs).length ≤ SZ := by
        have h1 := length_mergeK kvs []
        rw [List.length_nil] at h1
        have : SZ = 16777216 := rfl
        omega
      refine ⟨hH1, kvs, ep, by omega, ?_⟩
      have nD : p ∉ ρ1 := (s1.bnd p (.inr rfl)).1
      have alW : Alike (wD B p) (wD B p) ρ1 H1 (upd H1 p (.dK (mergeK [] kvs))) := ⟨fun a o q n b => ⟨by rw [upd_ne (fun z => b (.inr z))]; exact q, b⟩, fun a vs q => by
        exact q.ne (by rintro rfl; obtain ⟨_, _, _, q⟩ := q; rw [hH1] at q; cases q)⟩
      have alB : Alike (wD B p) B ρ1 H1 (upd H1 p (.dK (mergeK [] kvs))) := ⟨fun a o q n b => ⟨by rw [upd_ne (fun z => b (.inr z))]; exact q, fun z => b (.inl z)⟩, alW.tup⟩
      have kp : ∀ a ∈ ρ1, upd H1 p (.dK (mergeK [] kvs)) a = H1 a := fun a m => upd_ne (by rintro rfl; exact nD m)
      have bn : ∀ a, wD B p a → a ∉ ρ1 ∧ ∃ o, upd H1 p (.dK (mergeK [] kvs)) a = some o := fun a b => by
        refine ⟨(s1.bnd a b).1, ?_⟩
        by_cases hp : a = p
        · subst hp; exact ⟨_, upd_same⟩
        · obtain ⟨o, q⟩ := (s1.bnd a b).2
          exact ⟨o, by rw [upd_ne hp]; exact q⟩
      have s2 : SR (kf X) B ρ1 h1 (upd H1 p (.dK (mergeK [] kvs))) := s1.alike alB kp (fun a b => bn a (.inl b))
      have s3 : SR (kf X) (wD B p) ρ1 h1 (upd H1 p (.dK (mergeK [] kvs))) := s1.alike alW kp bn
      refine q ρ1 _ ⟨((Ext.new f).trans e1).pre, fun a o q n => ?_, fun a vs q => ?_⟩ s2 (.ref p) ?_ (fun _ _ a ea => by
        cases ea
        exact ⟨f, fresh_wD s3 nB ⟨mergeK [] kvs, upd_same, hz, e2, e3.alike alW⟩⟩)
      · obtain ⟨x1, x2⟩ := ((Ext.new f).trans e1).keep a o q n
        exact ⟨by rw [upd_ne (ne_of_none q f)]; exact x1, x2⟩
      · obtain ⟨_, _, _, q'⟩ := id q
        exact (((Ext.new f).trans e1).tup a vs q).ne (ne_of_none q' f)
      · simp only [Rel]
        exact ⟨p, mergeK [] kvs, rfl, ⟨upd_same, nD, nB⟩, hz, e2, e3.alike alB⟩
/-- d.get(k) -/
theorem d_get1 {o e : Expr} {apos cpos : Pos} {mo me : Ev → M PV} {fo fe : Bool} (hr : ∃ k, Room k X.A) (ho : PE X o (dn (kf X) xw mo fo)) (he : PE X e (dn (kf X) xw me fe)) (hs : noStar e = true) (hb : noCall o = true) (hline : (apos.endLine == cpos.line) = true) :
    PE X (.Call (.Attribute o "get" apos) [e] [] cpos) (dn (kf X) xw (fun env => do
      let x ← mo env
      fun h => lift (mtT h .get1 x) h
      let vs ← (fun env => do let v ← me env; let vs ← (fun _ h => .ok [] h : Ev → M (List PV)) env; pure (v :: vs) : Ev → M (List PV)) env
      mtV .get1 x vs) false) := by
  obtain ⟨k, hr⟩ := hr
  have hu1 : X.A.units + 1 < cLine := by have := hr.units; omega
  have hst : starEach [e] X.env = [(false, eval e X.env)] := by rw [star_one hs]; rfl
  have m1 : M1 X o "get" apos e cpos := ⟨base_ok hb, by rw [hst]; rfl, hline, by rw [hst]; rfl⟩
  refine PE.mono (pe_dget1 hu1 ho he m1) fun σ H Q ⟨B, ρ, h, env, s, er, q⟩ => dn_seq s er q fun x h1 ρ1 H1 v e1 s1 er1 r1 _ q => ?_
  have q : Post (kf X) B (xw σ) ρ1 H1 (((fun h => lift (mtT h .get1 x) h) >>= fun _ => (((fun env => do let v ← me env; let vs ← (fun _ h => .ok [] h : Ev → M (List PV)) env; pure (v :: vs) : Ev → M (List PV)) env) >>= fun vs => mtV .get1 x vs) : M PV) h1) _ := q
  have q := q.bind
  have q : Post (kf X) B (xw σ) ρ1 H1 (lift (mtT h1 .get1 x) h1) _ := q
  cases hd : dctOf h1 x with
  | none => simp only [mtT, hd] at q; exact q.elim
  | some kv =>
    obtain ⟨ks, ws⟩ := kv
    simp only [mtT, hd, Option.map_some] at q
    have q := (q ρ1 H1 (Ext.refl _ _) s1).bind
    obtain ⟨a, kvs, rfl, hq, _, hk, rs⟩ := dct_at s1 r1 hd
    refine ⟨a, rfl, .inl ⟨_, .inl hq⟩, dn_seq s1 er1 q fun y h2 ρ2 H2 w e2 s2 _ r2 _ q => ?_⟩
    have q : Post (kf X) B (xw σ) ρ2 H2 (mGet1 x [y] h2) _ := (q.bind ρ2 H2 (Ext.refl _ _) s2 : Post (kf X) B (xw σ) ρ2 H2 ((Pure.pure [y] : M (List PV)) h2) _).pure s2
    unfold mGet1 at q
    cases hd2 : dctOf h2 x with
    | none => simp only [hd2] at q; exact q.elim
    | some kv2 =>
      obtain ⟨ks2, ws2⟩ := kv2
      simp only [hd2] at q
      obtain ⟨a2, kvs2, ea, hq2, _, hk2, rs2⟩ := dct_at s2 (r1.mono e2) hd2
      cases ea
      split at q
      · rename_i hk
        have q := q ρ2 H2 (Ext.refl _ _) s2
        rw [hk2] at q
        have dv := dget_V (X := X) (B := B) (ρ := ρ2) (H := H2) hk rs2
        rw [key_V hk r2]
        refine ⟨valV kvs2 (toK y), DGet.k hq2, ?_⟩
        cases hg : dget y (kvs2.map fun p => keyP p.1) ws2 with
        | none =>
          rw [hg] at q
          rw [dv.2 hg]
          exact q _ Rel.non_mk (fun a => by cases a)
        | some o =>
          rw [hg] at q
          obtain ⟨v, hv, rv⟩ := dv.1 o hg
          rw [hv]
          exact q _ rv (fun a => by cases a)
      · exact q.elim
theorem rev_rel {ρ : List Addr} {H : Hp} : ∀ {l : List PV} {vs : List V}, Rels (kf X) B ρ H l vs → Rels (kf X) B ρ H l.reverse vs.reverse
  | [], vs, r => by rw [r.nil_inv]; exact Rels.nil
  | x :: l, vs, r => by
    obtain ⟨w, ws, rfl, a, b⟩ := r.cons_inv
    rw [List.reverse_cons, List.reverse_cons]
    exact (rev_rel b).append (Rels.cons a Rels.nil)
theorem d_rev {a : Expr} {k : Nat} {p1 p2 p3 pos : Pos} {ma : Ev → M PV} {fa : Bool} (ha : PE X a (dn (kf X) xw ma fa)) :
    PE X (.Subscript a (.Slice none none (some (.UnaryOp .USub (.Constant (.int 1) k p1) p2)) p3) pos) (dn (kf X) xw (fun env => do let x ← ma env; fun h => lift (revV h x) h) true) :=
  PE.mono (pe_revA ha) fun σ H Q ⟨B, ρ, h, env, s, er, q⟩ => dn_seq s er q fun x h1 ρ1 H1 v e1 s1 er1 r1 _ q => by
    have q : Post (kf X) B (xw σ) ρ1 H1 (lift (revV h1 x) h1) _ := q
    have lst : ∀ {l : List PV} {vs : List V}, Post (kf X) B (xw σ) ρ1 H1 (lift (some (PV.lst l.reverse)) h1) (fun p h' ρ' H' => ∀ v, Rel (kf X) B ρ' H' p v → freshV (kf X) B true p v H ρ' h' H' → Q v H') → vs.length ≤ SZ → Rels (kf X) B ρ1 H1 l vs → ∀ p, H1 p = none → Q (.ref p) (upd H1 p (.lst vs.reverse)) := by
      intro l vs q z rs p f
      have z' : vs.reverse.length ≤ SZ := by rw [List.length_reverse]; exact z
      exact q ρ1 _ (Ext.new f) (s1.new f) _ (Rel.lst_new s1 f z' (rev_rel rs)) (fun _ _ a ea => by cases ea; exact ⟨s.fresh_back s1 e1 f, fresh_lst s1 f z' (rev_rel rs)⟩)
    have other : ∀ {l : List PV}, lstOf h1 x = some l → revV h1 x = some (.lst l.reverse) → ∃ a xs, v = .ref a ∧ ((SqL X.K H1 a xs ∧ ∀ p, H1 p = none → Q (.ref p) (upd H1 p (.lst xs.reverse))) ∨ (SqT X.K H1 a xs ∧ NewT H1 xs.reverse Q)) := by
      intro l hl er
      rw [er] at q
      obtain ⟨a, vs, rfl, hq, z, rs⟩ := lst_at s1 r1 hl
      exact ⟨a, vs, rfl, .inl ⟨SqL.of hq, lst q z rs⟩⟩
    cases x with
    | tup l =>
      obtain ⟨a, vs, rfl, f, z, rs⟩ := r1.tup_inv
      have z' : vs.reverse.length ≤ SZ := by rw [List.length_reverse]; exact z
      exact ⟨a, vs, rfl, .inr ⟨tup_sq f, fun p o oc od f => q ρ1 _ (Ext.new f) (s1.new f) _ (Rel.tup_new oc od s1 f z' (rev_rel rs)) (fun _ q => by cases q)⟩⟩
    | scr l =>
      obtain ⟨a, vs, rfl, f, z, rs⟩ := r1.scr_inv
      exact ⟨a, vs, rfl, .inl ⟨scr_sq f, lst q z rs⟩⟩
    | lst l => exact other rfl rfl
    | ref i =>
      cases hl : lstOf h1 (.ref i) with
      | none => simp only [revV, hl] at q; exact q.elim
      | some l => exact other hl (by simp only [revV, hl]; rfl)
    | _ => exact q.elim
end
end Y

/-! K5g: d.get(k, z) -/
namespace Y
open PySem PySem.Spec PyProof.Rows L2
section
variable {X : Cx} {xw : L2.St → XW} {B : Addr → Prop}
theorem d_get2 {o e f : Expr} {apos cpos : Pos} {mo me mf : Ev → M PV} {fo fe ff : Bool} (hr : ∃ k, Room k X.A) (ho : PE X o (dn (kf X) xw mo fo)) (he : PE X e (dn (kf X) xw me fe)) (hf : PE X f (dn (kf X) xw mf ff)) (hs : noStar e = true) (hs2 : noStar f = true) (hb : noCall o = true) (hline : (apos.endLine == cpos.line) = true) :
    PE X (.Call (.Attribute o "get" apos) [e, f] [] cpos) (dn (kf X) xw (fun env => do
      let x ← mo env
      fun h => lift ((dctOf h x).map fun _ => ()) h
      let y ← me env
      let w ← mf env
      fun h => lift (get2V h x y w) h) false) := by
  obtain ⟨k, hr⟩ := hr
  have hu1 : X.A.units + 1 < cLine := by have := hr.units; omega
  have hst : starEach [e, f] X.env = [(false, eval e X.env), (false, eval f X.env)] := by rw [star_one hs, star_one hs2]; rfl
  have m2 : M2 X o "get" apos e f cpos := ⟨base_ok hb, by rw [hst]; rfl, hline, by rw [hst]; rfl⟩
  refine PE.mono (pe_dget2 hu1 ho he hf m2) fun σ H Q ⟨B, ρ, h, env, s, er, q⟩ => dn_seq s er q fun x h1 ρ1 H1 v e1 s1 er1 r1 _ q => ?_
  have q := q.bind
  have q : Post (kf X) B (xw σ) ρ1 H1 (lift ((dctOf h1 x).map fun _ => ()) h1) _ := q
  cases hd : dctOf h1 x with
  | none => simp only [hd] at q; exact q.elim
  | some kv =>
    obtain ⟨ks, ws⟩ := kv
    simp only [hd, Option.map_some] at q
    have q := q ρ1 H1 (Ext.refl _ _) s1
    obtain ⟨a, kvs, rfl, hq, _, hk, rs⟩ := dct_at s1 r1 hd
    refine ⟨a, rfl, .inl ⟨_, .inl hq⟩, dn_seq s1 er1 q fun y h2 ρ2 H2 w e2 s2 er2 r2 _ q => dn_seq s2 er2 q fun z h3 ρ3 H3 u e3 s3 _ r3 _ q => ?_⟩
    have q : Post (kf X) B (xw σ) ρ3 H3 (lift (get2V h3 x y z) h3) _ := q
    unfold get2V at q
    cases hd2 : dctOf h3 x with
    | none => simp only [hd2] at q; exact q.elim
    | some kv2 =>
      obtain ⟨ks2, ws2⟩ := kv2
      simp only [hd2] at q
      obtain ⟨a2, kvs2, ea, hq2, _, hk2, rs2⟩ := dct_at s3 ((r1.mono e2).mono e3) hd2
      cases ea
      split at q
      · rename_i hk
        have q := q ρ3 H3 (Ext.refl _ _) s3
        rw [hk2] at q
        have dv := dget_V (X := X) (B := B) (ρ := ρ3) (H := H3) hk rs2
        rw [key_V hk r2]
        refine ⟨valV kvs2 (toK y), DGet.k hq2, ?_⟩
        cases hg : dget y (kvs2.map fun p => keyP p.1) ws2 with
        | none =>
          rw [hg] at q
          rw [dv.2 hg]
          exact q _ r3 (fun a => by cases a)
        | some o =>
          rw [hg] at q
          obtain ⟨v, hv, rv⟩ := dv.1 o hg
          rw [hv]
          exact q _ rv (fun a => by cases a)
      · exact q.elim
end
end Y

/-! K5e: x.index(y) of lists and tuples; tuple(range(a, b, c)) -/
namespace Y
open PySem PySem.Spec PyProof.Rows L2

section
variable {X : Cx} {xw : L2.St → XW} {B : Addr → Prop}
/-- what the items' == with y say -/
def EqsV (K : PySem.W.Frag) (H : Hp) (ws : List V) (y : V) (bs : List Bool) : Prop :=
  (flatV y = true ∧ ws.all flatV = true ∧ bs = ws.map fun z => eqV z y) ∨ (∃ ds d, DpAll K H ws ds ∧ Dp K H y d ∧ PyData.canLayAll0 ds = true ∧ (d.canLay0 = true ∧ d.depth ≤ 30) ∧ bs = ds.map fun z => PyData.eqv z d)
theorem eqsV_items {pins : List (Addr × Obj)} {s : Shared} {σ : L2.St} {H : Hp} {ws : List V} {y : V} {bs : List Bool} {us : List Value} {u : Value} {A : Around} (I : Inv X pins σ H s) (e : EqsV X.K H ws y bs) (rv : Vals ws us) (ry : RelV y u) (hu : A.units + 40 < cLine) :
    SeqAt.ItemsEq A s us bs u true := by
  rcases e with ⟨fy, fw, rfl⟩ | ⟨ds, d, hd, hy, cl, sh, rfl⟩
  · refine ⟨by rw [List.length_map, rv.length], fun j h1 h2 => ?_⟩
    have hj : j < ws.length := by simpa using h2
    obtain ⟨u', hu', ru⟩ := rv.get (List.getElem?_eq_getElem hj)
    have e1 : us[j] = u' := by rw [List.getElem?_eq_getElem h1] at hu'; exact Option.some.inj hu'
    have := mem_eqAt (A := A) (s := s) ry fy rv fw u' (by rw [← e1]; exact List.getElem_mem h1)
    rw [e1]
    simp only [List.getElem_map]
    rw [eqU_of ru (flat_at fw (List.getElem?_eq_getElem hj))] at this
    simpa using this
  · obtain ⟨as, ra⟩ := Dp.readsAll I ds ws us hd rv
    obtain ⟨as', rb⟩ := Dp.reads I d y u hy ry
    have len : ∀ (us : List Value) (ds : List PyData) (as : List Addr), ReadsAll s.heap us ds as → us.length = ds.length := by
      intro us
      induction us with
      | nil => intro ds as r; cases r; rfl
      | cons v us ih => intro ds as r; cases r with | cons r1 r2 => simp [ih _ _ r2]
    have hl : us.length = ds.length := len _ _ _ ra
    refine ⟨by rw [List.length_map, hl], fun j h1 h2 => ?_⟩
    have hj : j < ds.length := by simpa using h2
    have get : ∀ (us : List Value) (ds : List PyData) (as : List Addr), ReadsAll s.heap us ds as → PyData.canLayAll0 ds = true → ∀ (j : Nat) (h1 : j < us.length) (h2 : j < ds.length), (∃ as', Reads s.heap us[j] ds[j] as') ∧ ds[j].canLay0 = true := by
      intro us
      induction us with
      | nil => intro ds as _ _ j h1; exact absurd h1 (Nat.not_lt_zero _)
      | cons v us ih =>
        intro ds as r c j h1 h2
        cases r with
        | cons r1 r2 =>
          simp only [PyData.canLayAll0, Bool.and_eq_true] at c
          cases j with
          | zero => exact ⟨⟨_, r1⟩, c.1⟩
          | succ j => exact ih _ _ r2 c.2 j (by simpa using h1) (by simpa using h2)
    obtain ⟨⟨as'', r1⟩, c1⟩ := get us ds as ra cl j h1 hj
    have hdp := sh.2
    have := SeqAt.eqAt_reads ds[j] d A s us[j] u as'' as' r1 rb c1 sh.1 (by
      have : min ds[j].depth d.depth ≤ d.depth := Nat.min_le_right _ _
      omega)
    simp only [List.getElem_map]
    simpa using this
def tIdx (K : KF) (to te : TE) : TE := fun σ H Q => to σ H fun x H1 => ∃ a, x = .ref a ∧ (((∃ ws, SqL K.fr H1 a ws) ∧ te σ H1 fun y H2 => ∃ ws bs, SqL K.fr H2 a ws ∧ EqsV K.fr H2 ws y bs ∧ true ∈ bs ∧ Q (.int (bs.idxOf true : Nat)) H2) ∨
  ((∃ ws, TupK H1 a ws ∨ KTup K a ws) ∧ te σ H1 fun y H2 => ∃ ws bs, SqT K.fr H2 a ws ∧ EqsV K.fr H2 ws y bs ∧ true ∈ bs ∧ Q (.int (bs.idxOf true : Nat)) H2))
theorem pe_idx {o e : Expr} {apos cpos : Pos} {to te : TE} (hu : X.A.units + 60 < cLine) (ho : PE X o to) (he : PE X e te) (hbase : attributeBase o "index" X.env (eval o X.env) = eval o X.env) (hs : noStar e = true) (hline : (apos.endLine == cpos.line) = true) :
    PE X (.Call (.Attribute o "index" apos) [e] [] cpos) (tIdx (kf X) to te) := by
  refine ⟨fun pins s σ H Q I h => ?_⟩
  have hst : starEach [e] X.env = (false, eval e X.env) :: starEach [] X.env := star_one hs
  have ha : PA X [e] (tCons te tNil) := pa_cons he pa_nil hst
  refine wpAny_Call_method_late hbase (by rw [Bool.and_eq_true, Bool.and_eq_true]; exact ⟨⟨star_few (by simp [hs]), rfl⟩, rfl⟩) hline rfl (thn (ho.run pins s σ H _ I h) fun v s1 ⟨x, H1, I1, r1, a, ex, q1⟩ => ?_)
  subst ex
  cases r1
  have args : ∀ {id : String} {R : V → Hp → Prop}, te σ H1 R → (∀ s2 y u H2, Inv X pins σ H2 s2 → RelV y u → R y H2 → wpAny (model X.prog X.w) X.A (call (.builtin id) [.ref a, u]) (EP X pins σ Q) X.xe s2) →
      wpAny (model X.prog X.w) X.A (callWith cpos (.builtin id) [.ref a] (backTo cpos (starEach [e] X.env)) []) (EP X pins σ Q) X.xe s1 := by
    intro id R q k
    have hA := ha.run cpos pins s1 σ H1 (fun ys H2 => match ys with | [y] => R y H2 | _ => False) I1 q
    rw [hst] at hA ⊢
    refine Calls.callWith_builtin rfl (Calls.evalArgs_plain ?_)
    refine thn hA fun us s2 ⟨vs, H2, I2, r2, q2⟩ => ?_
    match vs, r2, q2 with
    | [y], .cons ru .nil, q2 => exact k s2 y _ H2 I2 ru q2
  rcases q1 with ⟨⟨ws0, h0⟩, q1⟩ | ⟨⟨ws0, h0⟩, q1⟩
  · obtain ⟨h1, h2⟩ := tyV_is (T := "list") I1 (show RelV (.ref a) (.ref a) from rfl) (.inl ⟨rfl, ws0, h0⟩)
    refine ⟨"list", "list.index", PySem.F.plainAttrs_list, PySem.F.slot_list_index, PySem.F.type_list_index, h1, h2, ?_⟩
    refine args q1 fun s2 y u H2 I2 ru ⟨ws, bs, hq, he, ht, q⟩ => ?_
    obtain ⟨its, rv, pl, hz⟩ := I2.list hq
    have hE := eqsV_items (A := X.A.in1) I2 he rv ru (by show X.A.units + 1 + 40 < cLine; omega)
    exact SeqAt.call_list_index pl.isList hE (by rw [← hE.1, ← rv.length]; exact hz) ht ⟨.int _, H2, I2.tok _, ⟨_, rfl⟩, q⟩
  · have hob : ∃ ob, s1.heap.get? a = some ob ∧ ob.cls = .type "tuple" ∧ ob.dict = none := by
      rcases h0 with ⟨ob, hc, hd, hh⟩ | ⟨ob, _, _, hk, hc, hd, _⟩
      · exact ⟨ob, (I1.hok a _ hh).1, hc, hd⟩
      · exact ⟨ob, I1.kIn a ob hk, hc, hd⟩
    obtain ⟨ob, g1, g2, g3⟩ := hob
    refine ⟨"tuple", "tuple.index", PySem.F.plainAttrs_tuple, PySem.F.slot_tuple_index, PySem.F.type_tuple_index, ⟨ob, g1, g2⟩, fun b e => ?_, ?_⟩
    · cases e
      exact ⟨ob, g1, g3⟩
    refine args q1 fun s2 y u H2 I2 ru ⟨ws, bs, hq, he, ht, q⟩ => ?_
    obtain ⟨its, rv, pl, hz⟩ := I2.tuple hq
    have hE := eqsV_items (A := X.A.in1) I2 he rv ru (by show X.A.units + 1 + 40 < cLine; omega)
    exact SeqAt.call_tuple_index pl hE ht ⟨.int _, H2, I2.tok _, ⟨_, rfl⟩, q⟩
theorem findIx_idx {y : PV} : ∀ {l : List PV} {j : Nat}, findIx y l = some j → true ∈ (l.map fun z => eqv z y) ∧ (l.map fun z => eqv z y).idxOf true = j
  | [], j, h => by cases h
  | x :: l, j, h => by
    unfold findIx at h
    by_cases e : eqv x y = true
    · rw [if_pos e] at h
      cases h
      simp [e, List.idxOf_cons]
    · rw [if_neg e] at h
      obtain ⟨i, hi, rfl⟩ := Option.map_eq_some_iff.mp h
      obtain ⟨h1, h2⟩ := findIx_idx hi
      have e' : eqv x y = false := by simpa using e
      refine ⟨by simp only [List.map_cons]; exact List.mem_cons_of_mem _ h1, ?_⟩
      rw [List.map_cons, e', List.idxOf_cons, h2]
      rfl
theorem eqs_ok {ρ : List Addr} {H : Hp} {l : List PV} {ws : List V} {y : PV} {w : V} (hc : ((flat y && l.all flat) || (shp 20 y && l.all (shp 20))) = true) (ry : Rel (kf X) B ρ H y w) (rs : Rels (kf X) B ρ H l ws) : EqsV X.K H ws w (l.map fun z => eqv z y) := by
  rw [Bool.or_eq_true, Bool.and_eq_true, Bool.and_eq_true] at hc
  rcases hc with ⟨f1, f2⟩ | ⟨f1, f2⟩
  · refine .inl ⟨flat_V f1 ry, ?_, ?_⟩
    · clear ry
      induction l generalizing ws with
      | nil => rw [rs.nil_inv]; rfl
      | cons x l ih =>
        obtain ⟨v, vs, rfl, a, b⟩ := rs.cons_inv
        rw [List.all_cons, Bool.and_eq_true] at f2 ⊢
        exact ⟨flat_V f2.1 a, ih b f2.2⟩
    · induction l generalizing ws with
      | nil => rw [rs.nil_inv]; rfl
      | cons x l ih =>
        obtain ⟨v, vs, rfl, a, b⟩ := rs.cons_inv
        rw [List.all_cons, Bool.and_eq_true] at f2
        rw [List.map_cons, List.map_cons, ih b f2.2, eqv_V (X := X) f2.1 f1 a ry]
  · refine .inr ⟨toDs l, toD y, dps_of 20 l ws f2 rs, dp_of 20 y w f1 ry, (lay_all 20 l f2).1, ⟨(lay_of 20 y f1).1, Nat.le_trans (lay_of 20 y f1).2 (by decide)⟩, ?_⟩
    clear ry rs
    induction l with
    | nil => rfl
    | cons x l ih =>
      rw [List.all_cons, Bool.and_eq_true] at f2
      simp only [toDs, List.map_cons]
      rw [← ih f2.2, eqv_toD 20 20 x y f2.1 f1]
abbrev oneM (me : Ev → M PV) : Ev → M (List PV) := fun env => do let v ← me env; let vs ← (fun _ h => .ok [] h : Ev → M (List PV)) env; pure (v :: vs)
theorem lt_at {x : PV} {l : List PV} {v : V} {ρ : List Addr} {H : Hp} {h : Hh} (s : SR (kf X) B ρ h H) (r : Rel (kf X) B ρ H x v) (e : ltOf h x = some l) : ∃ a ws, v = .ref a ∧ ws.length ≤ SZ ∧ Rels (kf X) B ρ H l ws ∧ ((lstOf h x = some l ∧ SqL X.K H a ws) ∨ (x = .tup l ∧ (TupK H a ws ∨ KTup (kf X) a ws))) := by
  unfold ltOf at e
  split at e
  · cases e
    obtain ⟨a, ws, rfl, f, z, rs⟩ := r.tup_inv
    exact ⟨a, ws, rfl, z, rs, .inr ⟨rfl, f⟩⟩
  · obtain ⟨a, ws, rfl, hq, z, rs⟩ := lst_at s r e
    exact ⟨a, ws, rfl, z, rs, .inl ⟨e, SqL.of hq⟩⟩
theorem d_index {o e : Expr} {apos cpos : Pos} {mo me : Ev → M PV} {fo fe : Bool} (hr : ∃ k, Room k X.A) (ho : PE X o (dn (kf X) xw mo fo)) (he : PE X e (dn (kf X) xw me fe)) (hs : noStar e = true) (hb : noCall o = true) (hline : (apos.endLine == cpos.line) = true) :
    PE X (.Call (.Attribute o "index" apos) [e] [] cpos) (dn (kf X) xw (fun env => do
      let x ← mo env
      fun h => lift (mtT h .index x) h
      let vs ← oneM me env
      mtV .index x vs) false) := by
  obtain ⟨k, hr⟩ := hr
  have hu := hr.units
  refine PE.mono (pe_idx (by have := hr.units; omega) ho he (base_ok hb) hs hline) fun σ H Q ⟨B, ρ, h, env, s, er, q⟩ => dn_seq s er q fun x h1 ρ1 H1 v e1 s1 er1 r1 _ q => ?_
  have q : Post (kf X) B (xw σ) ρ1 H1 (((fun h => lift (mtT h .index x) h) >>= fun _ => (oneM me env >>= fun vs => mtV .index x vs) : M PV) h1) _ := q
  have q := q.bind
  have q : Post (kf X) B (xw σ) ρ1 H1 (lift (mtT h1 .index x) h1) _ := q
  cases hz : ltOf h1 x with
  | none => simp only [mtT, hz] at q; exact q.elim
  | some l0 =>
    simp only [mtT, hz, Option.map_some] at q
    have q := (q ρ1 H1 (Ext.refl _ _) s1).bind
    have fin : ∀ {y : PV} {h2 : Hh} {ρ2 : List Addr} {H2 : Hp} {w : V}, Post (kf X) B (xw σ) ρ2 H2 (mIndex x [y] h2) (fun p h' ρ' H' => ∀ v, Rel (kf X) B ρ' H' p v → freshV (kf X) B false p v H ρ' h' H' → Q v H') → SR (kf X) B ρ2 h2 H2 → Rel (kf X) B ρ2 H2 y w → ∃ l, ltOf h2 x = some l ∧
        ∀ ws, Rels (kf X) B ρ2 H2 l ws → ∃ bs, EqsV X.K H2 ws w bs ∧ true ∈ bs ∧ Q (.int (bs.idxOf true : Nat)) H2 := by
      intro y h2 ρ2 H2 w q s2 ry
      unfold mIndex at q
      simp only at q
      cases hl : ltOf h2 x with
      | none => rw [hl] at q; exact q.elim
      | some l =>
        rw [hl] at q
        simp only at q
        refine ⟨l, rfl, fun ws rs => ?_⟩
        split at q
        · rename_i hc
          cases hf : findIx y l with
          | none => rw [hf] at q; exact q.elim
          | some j =>
            rw [hf] at q
            obtain ⟨g1, g2⟩ := findIx_idx hf
            refine ⟨_, eqs_ok hc ry rs, g1, ?_⟩
            rw [g2]
            exact q ρ2 H2 (Ext.refl _ _) s2 _ Rel.int_mk (fun a => by cases a)
        · exact q.elim
    have one : ∀ {y : PV} {h2 : Hh} {ρ2 : List Addr} {H2 : Hp} {Φ : PV → Hh → List Addr → Hp → Prop}, Post (kf X) B (xw σ) ρ2 H2 (((do let vs ← (fun _ h => .ok [] h : Ev → M (List PV)) env; pure (y :: vs)) : M (List PV)) h2) (fun a h' ρ' H' => Post (kf X) B (xw σ) ρ' H' (mtV .index x a h') Φ) → SR (kf X) B ρ2 h2 H2 → Post (kf X) B (xw σ) ρ2 H2 (mIndex x [y] h2) Φ :=
      fun q s2 => (q.bind _ _ (Ext.refl _ _) s2 : Post (kf X) B (xw σ) _ _ ((Pure.pure [_] : M (List PV)) _) _).pure s2
    obtain ⟨a, ws0, rfl, _, rs0, hk⟩ := lt_at s1 r1 hz
    rcases hk with ⟨hl, hq⟩ | ⟨rfl, hq⟩
    · refine ⟨a, rfl, .inl ⟨⟨ws0, hq⟩, dn_seq s1 er1 q fun y h2 ρ2 H2 w e2 s2 _ ry _ q => ?_⟩⟩
      obtain ⟨l, hl2, k⟩ := fin (one q s2) s2 ry
      obtain ⟨b, ws, eb, _, rs, hk2⟩ := lt_at s2 (r1.mono e2) hl2
      cases eb
      obtain ⟨bs, k1, k2, k3⟩ := k ws rs
      rcases hk2 with ⟨_, hq2⟩ | ⟨rfl, hq2⟩
      · exact ⟨ws, bs, hq2, k1, k2, k3⟩
      · simp [lstOf] at hl
    · refine ⟨a, rfl, .inr ⟨⟨ws0, hq⟩, dn_seq s1 er1 q fun y h2 ρ2 H2 w e2 s2 _ ry _ q => ?_⟩⟩
      obtain ⟨l, hl2, k⟩ := fin (one q s2) s2 ry
      obtain ⟨b, ws, eb, _, rs, hk2⟩ := lt_at s2 (r1.mono e2) hl2
      cases eb
      obtain ⟨bs, k1, k2, k3⟩ := k ws rs
      rcases hk2 with ⟨h3, _⟩ | ⟨_, hq2⟩
      · simp [lstOf] at h3
      · exact ⟨ws, bs, tup_sq hq2, k1, k2, k3⟩
end
end Y

/-! K5f: tuple(range(a, b, c)), zip -/
namespace Y
open PySem PySem.Spec PyProof.Rows L2
section
variable {X : Cx} {xw : L2.St → XW} {B : Addr → Prop}
def tRg3 (ta : TA) : L2.St → Hp → (Int → Int → Int → Hp → Prop) → Prop := fun σ H Q => ta σ H fun vs H1 => ∃ i j c, vs = [.int i, .int j, .int c] ∧ c ≠ 0 ∧ c.natAbs < 1073741824 ∧ Q i j c H1
theorem prc_3 {a b c : Expr} {ta : TA} {p pos : Pos} (hg : Gl X "range") (hm : X.mg "range" = none) (ha : PA X [a, b, c] ta) (hs : starEach [a, b, c] X.env = (false, eval a X.env) :: starEach [b, c] X.env) (hpl : (backTo pos (starEach [b, c] X.env)).any (·.1) = false) : PRc X (.Call (.Name "range" p) [a, b, c] [] pos) (tRg3 ta) := by
  intro pins s σ H Q I h
  refine Call_ (ld_blt I hg hm boot_range (PyProof.Rows.callWith_type1 (thn (ha.run pos pins s σ H _ I h) fun us s1 ⟨vs, H1, I1, r1, i, j, k, e, c0, c1, q⟩ => ?_) hs hpl))
  subst e
  obtain ⟨u1, us1, rfl, ⟨t1, e1⟩, r1⟩ : ∃ u1 us1, us = u1 :: us1 ∧ RelV (.int i) u1 ∧ Vals [V.int j, V.int k] us1 := by
    cases r1 with | cons a b => exact ⟨_, _, rfl, a, b⟩
  obtain ⟨u2, u3, rfl, ⟨t2, e2⟩, ⟨t3, e3⟩⟩ := vals2 r1
  subst e1 e2 e3
  · refine call_range_3 c0 ?_ (.inl (PyProof.noPylong_small c1))
    exact ⟨_, i, j, k, _, _, _, H1, rfl, IsRange.new _ _ _ _ _ _ _, I1.kept fun b u e => Heap.get?_push_of_some _ e, q⟩
theorem d_lrng3 {e e2 e3 : Expr} {p pos p2 pos2 : Pos} {m m2 m3 : Ev → M PV} {fr fr2 fr3 : Bool} (hc : X.calm = true) (hg : Gl X "range") (hm : X.mg "range" = none) (hg2 : Gl X "tuple") (hm2 : X.mg "tuple" = none) (hs : starEach [e, e2, e3] X.env = (false, eval e X.env) :: starEach [e2, e3] X.env) (hs2 : starEach [e2, e3] X.env = (false, eval e2 X.env) :: starEach [e3] X.env) (hs3 : starEach [e3] X.env = (false, eval e3 X.env) :: starEach [] X.env)
    (hpl : (backTo pos (starEach [e2, e3] X.env)).any (·.1) = false) (hsr : starEach [.Call (.Name "range" p) [e, e2, e3] [] pos] X.env = (false, eval (.Call (.Name "range" p) [e, e2, e3] [] pos) X.env) :: starEach [] X.env) (he : PE X e (dn (kf X) xw m fr)) (he2 : PE X e2 (dn (kf X) xw m2 fr2)) (he3 : PE X e3 (dn (kf X) xw m3 fr3)) :
    PE X (.Call (.Name "tuple" p2) [.Call (.Name "range" p) [e, e2, e3] [] pos] [] pos2) (dn (kf X) xw (fun env => do
      let x ← m env
      let y ← m2 env
      let z ← m3 env
      lift ((rng3V x y z).map fun l => if true then .tup l else .lst l)) true) := by
  refine PE.mono (pe_tupRc hc hg2 hm2 (prc_3 hg hm (pa_cons he (pa_cons he2 (pa_cons he3 pa_nil hs3) hs2) hs) hs hpl) hsr) fun σ H Q ⟨B, ρ, h, env, s, er, q⟩ => dn_seq s er q fun x h1 ρ1 H1 v e1 s1 er1 r1 _ q => dn_seq s1 er1 q fun y h2 ρ2 H2 w e2 s2 er2 r2 _ q => dn_seq s2 er2 q fun z h3 ρ3 H3 u e3 s3 er3 r3 _ q => ?_
  cases hz : rng3V x y z with
  | none => rw [hz] at q; exact q.elim
  | some l =>
    rw [hz] at q
    obtain ⟨i, j, c, n, rfl, rfl, rfl, ⟨c0, c1, c2, c3⟩, hsz, rfl⟩ := rng3V_inv hz
    refine ⟨i, j, c, by rw [r1.int_inv, r2.int_inv, r3.int_inv], c0, c1, n, c2, c3, by rw [← SZ_eq] at *; exact hsz, fun p o oc od f => ?_⟩
    exact q ρ3 _ (Ext.new f) (s3.new f) _ (Rel.tup_new oc od s3 f (by rw [rgC_len]; exact hsz) (rgC_rel i c n)) (fun _ a => by cases a)
/-- two sequences, item by item -/
theorem zip_later {x : PV} {l : List PV} {v : V} {ρ1 : List Addr} {H1 : Hp} {h1 : Hh} {B B' : Addr → Prop} (s : SR (kf X) B ρ1 h1 H1) (r : Rel (kf X) B ρ1 H1 x v) (e : seqOf h1 x = some l) (hB : ∀ a, B' a → B a ∨ H1 a = none) :
    ∃ a, v = .ref a ∧ l.length ≤ SZ ∧ ((∃ l', x = .tup l') ∧ (∀ ρ h H, ExtW B' ρ1 H1 ρ H → SR (kf X) B' ρ h H → grd x l h = true → ∃ vs, SqT X.K H a vs ∧ Rels (kf X) B' ρ H l vs) ∨
      (∀ l', x ≠ .tup l') ∧ (∀ ρ h H, ExtW B' ρ1 H1 ρ H → SR (kf X) B' ρ h H → grd x l h = true → ∃ vs, SqL X.K H a vs ∧ Rels (kf X) B' ρ H l vs)) := by
  obtain ⟨a, h1, h2, h3⟩ := seq_later s r e hB
  exact ⟨a, h1, h2, h3.imp (fun ⟨p, _, q⟩ => ⟨p, q⟩) (fun ⟨p, _, q⟩ => ⟨p, q⟩)⟩
theorem zipOf_inv {h : Hh} {x y : PV} {l r : List PV} (e : zipOf h x y = some (l, r)) : seqOf h x = some l ∧ seqOf h y = some r ∧ ((x = .tup l ∧ y = .tup r) ∨ (lstOf h x = some l ∧ lstOf h y = some r)) := by
  unfold zipOf at e
  split at e
  · cases e
    exact ⟨rfl, rfl, .inl ⟨rfl, rfl⟩⟩
  · split at e <;> try contradiction
    rename_i a b ha hb
    cases e
    have sq : ∀ {z : PV} {m : List PV}, lstOf h z = some m → seqOf h z = some m := by
      intro z m q
      cases z <;> simp only [lstOf] at q <;> first | contradiction | exact q
    exact ⟨sq ha, sq hb, .inr ⟨ha, hb⟩⟩
theorem d_izip {elts : List Expr} {kk : Nat} {tpos p pos : Pos} {e e2 : Expr} {m m2 : Ev → M PV} {fr fr2 : Bool} (hg : Gl X "zip") (hm : X.mg "zip" = none) (hs : starEach [e, e2] X.env = (false, eval e X.env) :: starEach [e2] X.env) (hs2 : starEach [e2] X.env = (false, eval e2 X.env) :: starEach [] X.env) (hpl : (backTo pos (starEach [e2] X.env)).any (·.1) = false) (he : PE X e (dn (kf X) xw m fr)) (he2 : PE X e2 (dn (kf X) xw m2 fr2)) :
    PI X (.Tuple elts kk tpos) (.Call (.Name "zip" p) [e, e2] [] pos) (dnI (kf X) xw true (fun env => do
      let x ← m env
      let y ← m2 env
      let l ← fun h => lift (zipOf h x y) h
      pure (zipL l.1 l.2, fun h => grd x l.1 h && grd y l.2 h))) :=
  PI.mono (RZ.pi_zipA hg hm (pa_cons he (pa_cons he2 pa_nil hs2) hs) hs hpl) fun σ H R ⟨B, ρ, h, env, s, er, q⟩ => dn_seq s er q fun x h1 ρ1 H1 v e1 s1 er1 r1 _ q => dn_seq s1 er1 q fun y h2 ρ2 H2 w e2 s2 er2 r2 _ q => by
    have q : Post (kf X) B (xw σ) ρ2 H2 (lift (zipOf h2 x y) h2) _ := q.bind
    cases hz : zipOf h2 x y with
    | none => rw [hz] at q; exact q.elim
    | some lr =>
      obtain ⟨l, r⟩ := lr
      rw [hz] at q
      have q := Post.pure (a := (zipL l r, fun h => grd x l h && grd y r h)) (q ρ2 H2 (Ext.refl _ _) s2) s2
      obtain ⟨hx, hy, hk⟩ := zipOf_inv hz
      have r1 := r1.mono e2
      obtain ⟨a, rfl, sz1, k1⟩ := zip_later (B' := B) s2 r1 hx (fun _ b => .inl b)
      obtain ⟨b, rfl, sz2, k2⟩ := zip_later (B' := B) s2 r2 hy (fun _ b => .inl b)
      have small : (zipL l r).length ≤ SZ := by rw [zipL_length]; exact Nat.le_trans (Nat.min_le_left _ _) sz1
      have pr : ∀ {B' : Addr → Prop} {ρ : List Addr} {h : Hh} {H : Hp} {vs ws : List V} {i : Nat} {z : PV} {T : Addr} {v w : V}, SR (kf X) B' ρ h H → Rels (kf X) B' ρ H l vs → Rels (kf X) B' ρ H r ws → (zipL l r)[i]? = some z → H T = none → vs[i]? = some v → ws[i]? = some w →
          Ext ρ H ρ (upd H T (.tup [v, w])) ∧ SR (kf X) B' ρ h (upd H T (.tup [v, w])) ∧ RelP true (kf X) B' ρ (upd H T (.tup [v, w])) z (.ref T) ∧ ∀ a o, H a = some o → upd H T (.tup [v, w]) a = some o := by
        intro B' ρ h H vs ws i z T v w s1 rs rt hi hT hv hw
        obtain ⟨p1, p2, g1, g2, rfl⟩ := zipL_get l r i z hi
        obtain ⟨v', hv', rv⟩ := rs.get g1
        obtain ⟨w', hw', rw_⟩ := rt.get g2
        rw [hv] at hv'; cases hv'
        rw [hw] at hw'; cases hw'
        exact pair_new s1 hT rv rw_
      rcases hk with ⟨rfl, rfl⟩ | ⟨hlx, hly⟩
      · obtain ⟨a', vs, ea, f1, _, _⟩ := r1.tup_inv
        obtain ⟨b', ws, eb, f2, _, _⟩ := r2.tup_inv
        cases ea; cases eb
        refine ⟨a, b, vs, ws, rfl, .inr ⟨tup_sq f1, tup_sq f2, q _ fun B' hb1 hb2 => ?_⟩⟩
        obtain ⟨a', ea, _, k1⟩ := zip_later (B' := B') s2 r1 hx hb2
        obtain ⟨b', eb, _, k2⟩ := zip_later (B' := B') s2 r2 hy hb2
        cases ea; cases eb
        rcases k1 with ⟨_, k1⟩ | ⟨k1, _⟩
        · rcases k2 with ⟨_, k2⟩ | ⟨k2, _⟩
          · refine ⟨small, fun ρ h H i z e1 s1 g hi => ?_, fun ρ h H i z v H' e1 s1 g hi yy => ?_, fun ρ h H e1 s1 g => ?_⟩
            · have g : (grd (.tup l) l h && grd (.tup r) r h) = true := g
              rw [Bool.and_eq_true] at g
              obtain ⟨vs, q1, q2⟩ := k1 ρ h H e1 s1 g.1
              obtain ⟨ws, q3, q4⟩ := k2 ρ h H e1 s1 g.2
              obtain ⟨p1, p2, g1, g2, rfl⟩ := zipL_get l r i z hi
              obtain ⟨v', hv', _⟩ := q2.get g1
              obtain ⟨w', hw', _⟩ := q4.get g2
              exact ⟨vs, ws, v', w', q1, q3, hv', hw'⟩
            · have g : (grd (.tup l) l h && grd (.tup r) r h) = true := g
              rw [Bool.and_eq_true] at g
              obtain ⟨vs, q1, q2⟩ := k1 ρ h H e1 s1 g.1
              obtain ⟨ws, q3, q4⟩ := k2 ρ h H e1 s1 g.2
              obtain ⟨T, v', w', rfl, hT, rfl, y1, y2⟩ := yy
              exact pr s1 q2 q4 hi hT (y1 vs q1) (y2 ws q3)
            · have g : (grd (.tup l) l h && grd (.tup r) r h) = true := g
              rw [Bool.and_eq_true] at g
              obtain ⟨vs, q1, q2⟩ := k1 ρ h H e1 s1 g.1
              obtain ⟨ws, q3, q4⟩ := k2 ρ h H e1 s1 g.2
              refine ⟨vs, ws, q1, q3, ?_⟩
              show vs.length ≤ (zipL l r).length ∨ ws.length ≤ (zipL l r).length
              rw [zipL_length, ← q2.length, ← q4.length]
              omega
          · exact absurd rfl (k2 r)
        · exact absurd rfl (k1 l)
      · have nt : ∀ {z : PV} {m : List PV}, lstOf h2 z = some m → ∀ l', z ≠ .tup l' := by
          rintro z m q l' rfl
          simp [lstOf] at q
        obtain ⟨a', vs, ea, f1, _, _⟩ := lst_at s2 r1 hlx
        obtain ⟨b', ws, eb, f2, _, _⟩ := lst_at s2 r2 hly
        cases ea; cases eb
        refine ⟨a, b, vs, ws, rfl, .inl ⟨SqL.of f1, SqL.of f2, q _ fun B' hb1 hb2 => ?_⟩⟩
        obtain ⟨a', ea, _, k1⟩ := zip_later (B' := B') s2 r1 hx hb2
        obtain ⟨b', eb, _, k2⟩ := zip_later (B' := B') s2 r2 hy hb2
        cases ea; cases eb
        rcases k1 with ⟨⟨l', k1⟩, _⟩ | ⟨_, k1⟩
        · exact absurd k1 (nt hlx l')
        · rcases k2 with ⟨⟨l', k2⟩, _⟩ | ⟨_, k2⟩
          · exact absurd k2 (nt hly l')
          · refine ⟨small, fun ρ h H i z e1 s1 g hi => ?_, fun ρ h H i z v H' e1 s1 g hi yy => ?_, fun ρ h H e1 s1 g => ?_⟩
            · have g : (grd x l h && grd y r h) = true := g
              rw [Bool.and_eq_true] at g
              obtain ⟨vs, q1, q2⟩ := k1 ρ h H e1 s1 g.1
              obtain ⟨ws, q3, q4⟩ := k2 ρ h H e1 s1 g.2
              obtain ⟨p1, p2, g1, g2, rfl⟩ := zipL_get l r i z hi
              obtain ⟨v', hv', _⟩ := q2.get g1
              obtain ⟨w', hw', _⟩ := q4.get g2
              exact ⟨vs, ws, v', w', q1, q3, hv', hw'⟩
            · have g : (grd x l h && grd y r h) = true := g
              rw [Bool.and_eq_true] at g
              obtain ⟨vs, q1, q2⟩ := k1 ρ h H e1 s1 g.1
              obtain ⟨ws, q3, q4⟩ := k2 ρ h H e1 s1 g.2
              obtain ⟨T, v', w', rfl, hT, rfl, y1, y2⟩ := yy
              exact pr s1 q2 q4 hi hT (y1 vs q1) (y2 ws q3)
            · have g : (grd x l h && grd y r h) = true := g
              rw [Bool.and_eq_true] at g
              obtain ⟨vs, q1, q2⟩ := k1 ρ h H e1 s1 g.1
              obtain ⟨ws, q3, q4⟩ := k2 ρ h H e1 s1 g.2
              refine ⟨vs, ws, q1, q3, ?_⟩
              show vs.length ≤ (zipL l r).length ∨ ws.length ≤ (zipL l r).length
              rw [zipL_length, ← q2.length, ← q4.length]
              omega
end
end Y

/-! K6: statements -/
namespace Y
open PySem PySem.Spec PyProof.Rows L2

section
variable (K : KF) (xc : XW) (J : L2.St → Prop)
def dnF (B : Addr → Prop) (D : Ends) : Fl → List Addr → Hp → Prop
  | .nx e, ρ, H => ∀ σ, EnvR K B ρ H e σ → J σ → D.nx σ H
  | .rt p, ρ, H => ∀ v, Rel K B ρ H p v → D.rt v H
  | .bk e, ρ, H => ∀ σ, EnvR K B ρ H e σ → J σ → D.bk σ H
  | .ct e, ρ, H => ∀ σ, EnvR K B ρ H e σ → J σ → D.ct σ H
/-- a statement's reading by a run -/
def dnS (m : Ev → M Fl) : TS := fun D σ H => ∃ B ρ h env, SR K B ρ h H ∧ EnvR K B ρ H env σ ∧ J σ ∧ Post K B xc ρ H (m env h) fun f _ ρ' H' => dnF K J B D f ρ' H'
end
theorem PS.mono {X : Cx} {st : Stmt} {t t' : TS} (p : PS X st t) (h : ∀ D σ H, t' D σ H → t D σ H) : PS X st t' := ⟨fun pins s σ H D I hw => p.run pins s σ H D I (h D σ H hw)⟩
theorem PSs.mono {X : Cx} {st : List Stmt} {t t' : TS} (p : PSs X st t) (h : ∀ D σ H, t' D σ H → t D σ H) : PSs X st t' := ⟨fun pins s σ H D I hw => p.run pins s σ H D I (h D σ H hw)⟩
theorem Post.xm {K : KF} {B : Addr → Prop} {α} {xc xw : XW} {ρ : List Addr} {H : Hp} {r : R α} {Φ : α → Hh → List Addr → Hp → Prop} (p : Post K B xc ρ H r Φ) (h : ∀ c fs ρ H, xc c fs ρ H → xw c fs ρ H) : Post K B xw ρ H r Φ := by
  cases r with
  | ok a h1 => exact p
  | ex c fs h1 => exact fun ρ' H' e s => h c fs ρ' H' (p ρ' H' e s)
  | err => exact p
section
variable {X : Cx} {xw : L2.St → XW} {xc : XW} {J : L2.St → Prop}
abbrev XOk (xw : L2.St → XW) (xc : XW) (J : L2.St → Prop) : Prop := ∀ σ, J σ → ∀ c fs ρ H, xc c fs ρ H → xw σ c fs ρ H
abbrev JSet (J : L2.St → Prop) (is : List Nat) : Prop := ∀ i ∈ is, ∀ τ v, J τ → J (τ.set i (some v))
theorem asg_wp {t : Tg} {me : Ev → M PV} {fr : Bool} (hx : XOk xw xc J) (hj : JSet J (tgs t)) (D : Ends) (σ : L2.St) (H : Hp) (q : dnS (kf X) xc J (asgM t me) D σ H) : tAsg (dn (kf X) xw me fr) (gT (kf X) t) D σ H := by
  obtain ⟨B, ρ, h, env, s, er, j, q⟩ := q
  have q : Post (kf X) B (xw σ) ρ H ((me env >>= fun v => lift ((bindT t v env).map Fl.nx)) h) _ := Post.xm q (hx σ j)
  refine dn_seq s er q fun x h1 ρ1 H1 v e1 s1 er1 r1 _ q => ?_
  cases hb : bindT t x env with
  | none => rw [hb] at q; exact q.elim
  | some e2 =>
    rw [hb] at q
    exact gT_ok (P := J) er1 r1 hb j hj fun σ' er' j' => q ρ1 H1 (Ext.refl _ _) s1 σ' er' j'
theorem s_asg {tg e : Expr} {t : Tg} {pos : Pos} {me : Ev → M PV} {fr : Bool} (hx : XOk xw xc J) (hj : JSet J (tgs t)) (he : PE X e (dn (kf X) xw me fr)) (hg : PG X tg (gT (kf X) t)) (hs : swapsWithSole [tg] e pos.line X.env = pure false) (hw : swappedStores [tg] e X.env = pure none)
    (h1 : (assignEach [tg] X.env).map (·.2) = [assign tg X.env]) : PS X (.Assign [tg] e pos) (dnS (kf X) xc J (asgM t me)) :=
  PS.mono (ps_asg he hg hs hw h1) fun D σ H q => asg_wp hx hj D σ H q
theorem s_sub {o i e : Expr} {p pos : Pos} {mo mi me : Ev → M PV} {fo fi fe : Bool} (hr : ∃ k, Room k X.A) (hx : XOk xw xc J) (he : PE X e (dn (kf X) xw me fe)) (ho : PE X o (dn (kf X) xw mo fo)) (hi : PE X i (dn (kf X) xw mi fi)) (hs : swapsWithSole [.Subscript o i p] e pos.line X.env = pure false)
    (ha : ∀ v, assign (.Subscript o i p) X.env v = (do
      let ov ← holding [v] (eval o X.env)
      let iv ← holding [v, ov] (eval i X.env)
      standAt p
      holding [v, ov, iv] (setItem ov iv v)
      release [v, ov, iv] [])) : PS X (.Assign [.Subscript o i p] e pos) (dnS (kf X) xc J (fun env => do
      let v ← me env
      let x ← mo env
      let y ← mi env
      setV x y v
      pure (.nx env))) := by
  obtain ⟨r, hr1, hk⟩ := set_ok (X := X) hr
  refine PS.mono (ps_asg he (pg_sub ho hi hr1 ha) hs rfl rfl) fun D σ H ⟨B, ρ, h, env, s, er, j, q⟩ => ?_
  have q : Post (kf X) B (xw σ) ρ H ((me env >>= fun v => (mo env >>= fun x => (mi env >>= fun y => (setV x y v >>= fun _ => (pure (Fl.nx env) : M Fl))))) h) _ := Post.xm q (hx σ j)
  refine dn_seq s er q fun x h1 ρ1 H1 v e1 s1 er1 r1 _ q => dn_seq s1 er1 q fun y h2 ρ2 H2 w e2 s2 er2 r2 _ q => dn_seq s2 er2 q fun z h3 ρ3 H3 u e3 s3 er3 r3 _ q => ?_
  have q := q.bind
  cases hz : setV y z x h3 with
  | ok a h4 =>
    rw [hz] at q
    refine hk s3 (r2.mono e3) r3 ((r1.mono e2).mono e3) hz fun H' e' s' => ?_
    exact (Post.pure (q ρ3 H' e' s') s') σ (er3.mono e') j
  | ex c fs h4 =>
    exfalso
    unfold setV at hz
    (repeat' split at hz) <;> cases hz
  | err => rw [hz] at q; exact q.elim
theorem s_exp {e : Expr} {pos : Pos} {me : Ev → M PV} {fr : Bool} (hx : XOk xw xc J) (he : PE X e (dn (kf X) xw me fr)) (hs : swapsWith e none pos.line X.env = pure false) : PS X (.Expr e pos) (dnS (kf X) xc J (fun env => do let _ ← me env; pure (.nx env))) :=
  PS.mono (ps_expr he hs) fun D σ H ⟨B, ρ, h, env, s, er, j, q⟩ => by
    have q : Post (kf X) B (xw σ) ρ H ((me env >>= fun _ => (pure (Fl.nx env) : M Fl)) h) _ := Post.xm q (hx σ j)
    exact dn_seq s er q fun x h1 ρ1 H1 v e1 s1 er1 r1 _ q => (Post.pure q s1) σ er1 j
theorem s_ret {e : Expr} {pos : Pos} {me : Ev → M PV} {fr : Bool} (hx : XOk xw xc J) (he : PE X e (dn (kf X) xw me fr)) : PS X (.Return (some e) pos) (dnS (kf X) xc J (fun env => do let v ← me env; pure (.rt v))) :=
  PS.mono (ps_ret he) fun D σ H ⟨B, ρ, h, env, s, er, j, q⟩ => by
    have q : Post (kf X) B (xw σ) ρ H ((me env >>= fun v => (pure (Fl.rt v) : M Fl)) h) _ := Post.xm q (hx σ j)
    exact dn_seq s er q fun x h1 ρ1 H1 v e1 s1 er1 r1 _ q => (Post.pure q s1) v r1
theorem s_retn {pos : Pos} : PS X (.Return none pos) (dnS (kf X) xc J (fun _ => pure (.rt .non))) :=
  PS.mono ps_retN fun D σ H ⟨B, ρ, h, env, s, er, j, q⟩ => (Post.pure q s) _ Rel.non_mk
theorem s_pass {pos : Pos} : PS X (.Pass pos) (dnS (kf X) xc J (fun env => pure (.nx env))) :=
  PS.mono ps_pass fun D σ H ⟨B, ρ, h, env, s, er, j, q⟩ => (Post.pure q s) σ er j
theorem s_brk {pos : Pos} : PS X (.Break pos) (dnS (kf X) xc J (fun env => pure (.bk env))) :=
  PS.mono ps_break fun D σ H ⟨B, ρ, h, env, s, er, j, q⟩ => (Post.pure q s) σ er j
theorem s_cnt {pos : Pos} : PS X (.Continue pos) (dnS (kf X) xc J (fun env => pure (.ct env))) :=
  PS.mono ps_continue fun D σ H ⟨B, ρ, h, env, s, er, j, q⟩ => (Post.pure q s) σ er j
theorem s_doc {x : Str} {i : Nat} {p pos : Pos} : PS X (.Expr (.Constant (.str x) i p) pos) (dnS (kf X) xc J (fun env => pure (.nx env))) :=
  PS.mono ps_doc fun D σ H ⟨B, ρ, h, env, s, er, j, q⟩ => (Post.pure q s) σ er j
theorem ss_nil : PSs X [] (dnS (kf X) xc J (fun env => pure (.nx env))) :=
  PSs.mono pss_nil fun D σ H ⟨B, ρ, h, env, s, er, j, q⟩ => (Post.pure q s) σ er j
theorem ss_cons {st : Stmt} {sts : List Stmt} {m ms : Ev → M Fl} (h1 : PS X st (dnS (kf X) xc J m)) (h2 : PSs X sts (dnS (kf X) xc J ms)) : PSs X (st :: sts) (dnS (kf X) xc J (fun env => do let f ← m env; seqF ms f)) :=
  PSs.mono (pss_cons h1 h2) fun D σ H ⟨B, ρ, h, env, s, er, j, q⟩ => ⟨B, ρ, h, env, s, er, j, q.bind.imp fun f h1 ρ1 H1 e1 s1 q => by
    cases f with
    | nx e => exact fun σ' er' j' => ⟨B, ρ1, h1, e, s1, er', j', q⟩
    | rt p => exact Post.pure q s1
    | bk e => exact Post.pure q s1
    | ct e => exact Post.pure q s1⟩
theorem s_if {c : Expr} {a b : List Stmt} {pos : Pos} {mc : Ev → M Bool} {ma mb : Ev → M Fl} (hx : XOk xw xc J) (hc : PT X c (dnB (kf X) xw mc)) (ha : PSs X a (dnS (kf X) xc J ma)) (hb : PSs X b (dnS (kf X) xc J mb)) :
    PS X (.If c a b pos) (dnS (kf X) xc J (fun env => do if ← mc env then ma env else mb env)) :=
  PS.mono (ps_if hc ha hb) fun D σ H ⟨B, ρ, h, env, s, er, j, q⟩ => by
    have q0 : Post (kf X) B xc ρ H ((mc env >>= fun k => if k = true then ma env else mb env) h) _ := q
    refine ⟨B, ρ, h, env, s, er, Post.xm (q0.bind.imp fun k h1 ρ1 H1 e1 s1 q => ?_) (hx σ j)⟩
    cases k with
    | true => exact ⟨B, ρ1, h1, env, s1, er.mono e1, j, q⟩
    | false => exact ⟨B, ρ1, h1, env, s1, er.mono e1, j, q⟩
theorem whileF_succ {c : Ev → M Bool} {b : Ev → M Fl} {n : Nat} {env : Ev} : whileF c b (n + 1) env = (c env >>= fun k => if k = true then (b env >>= loopF (whileF c b n)) else pure (.nx env)) := rfl
theorem s_while {c : Expr} {body : List Stmt} {pos : Pos} {mc : Ev → M Bool} {mb : Ev → M Fl} {n : Nat} (hp : PassesOwn (model X.prog X.w) X.A X.env X.xe) (hx : XOk xw xc J) (hc : PT X c (dnB (kf X) xw mc)) (hb : PSs X body (dnS (kf X) xc J mb)) :
    PS X (.While c body [] pos) (dnS (kf X) xc J (fun env => whileF mc mb n env)) :=
  PS.mono (ps_while hp hc hb) fun D σ H ⟨B, ρ, h, env, s, er, j, q⟩ => by
    refine ⟨fun m σ H => ∃ ρ h env, SR (kf X) B ρ h H ∧ EnvR (kf X) B ρ H env σ ∧ J σ ∧ Post (kf X) B xc ρ H (whileF mc mb m env h) fun f _ ρ' H' => dnF (kf X) J B D f ρ' H', ⟨n, ρ, h, env, s, er, j, q⟩, ?_⟩
    rintro m σ H ⟨ρ, h, env, s, er, j, q⟩
    cases m with
    | zero => exact q.elim
    | succ m =>
      rw [whileF_succ] at q
      refine ⟨B, ρ, h, env, s, er, Post.xm (q.bind.imp fun k h1 ρ1 H1 e1 s1 q => ?_) (hx σ j)⟩
      cases k with
      | false => exact (Post.pure q s1) σ (er.mono e1) j
      | true =>
        refine ⟨fun σ' H' => ∃ ρ h env, SR (kf X) B ρ h H' ∧ EnvR (kf X) B ρ H' env σ' ∧ J σ' ∧ Post (kf X) B xc ρ H' (whileF mc mb m env h) fun f _ ρ' H' => dnF (kf X) J B D f ρ' H', fun σ' H' w => ⟨m, Nat.lt_succ_self m, w⟩, ?_⟩
        have q : Post (kf X) B xc ρ1 H1 ((mb env >>= loopF (whileF mc mb m)) h1) _ := q
        refine ⟨B, ρ1, h1, env, s1, er.mono e1, j, q.bind.imp fun f h2 ρ2 H2 e2 s2 q => ?_⟩
        cases f with
        | nx e => exact fun σ' er' j' => ⟨ρ2, h2, e, s2, er', j', q⟩
        | ct e => exact fun σ' er' j' => ⟨ρ2, h2, e, s2, er', j', q⟩
        | bk e => exact Post.pure q s2
        | rt v => exact Post.pure q s2
theorem forG_cons {g : Hh → Bool} {f : PV → Ev → M Fl} {x : PV} {xs : List PV} {env : Ev} {h : Hh} : forG g f (x :: xs) env h = if g h then (f x env >>= loopF (forG g f xs)) h else .err := rfl
theorem forG_nil {g : Hh → Bool} {f : PV → Ev → M Fl} {env : Ev} {h : Hh} : forG g f [] env h = if g h then .ok (.nx env) h else .err := rfl
theorem s_for {py : Bool} {tg iter : Expr} {body : List Stmt} {pos : Pos} {t : Tg} {mI : Ev → M (List PV × (Hh → Bool))} {mb : Ev → M Fl} (hp : PassesOwn (model X.prog X.w) X.A X.env X.xe) (hc : X.calm = true) (hx : XOk xw xc J) (hj : JSet J (tgs t)) (hpy : py = true → isTpT t = true) (hi : PI X tg iter (dnI (kf X) xw py mI)) (hg : PG X tg (gT (kf X) t)) (hb : PSs X body (dnS (kf X) xc J mb))
    (hs : ∀ x, foldedSetIterable iter X.env x = pure x) : PS X (.For tg iter body [] pos) (dnS (kf X) xc J (fun env => do let lg ← mI env; forG lg.2 (forB t mb) lg.1 env)) :=
  PS.mono (ps_for hp hc hi hg hb hs) fun D σ H ⟨B, ρ, h, env, s, er, j, q⟩ => by
    have q : Post (kf X) B xc ρ H ((mI env >>= fun lg => forG lg.2 (forB t mb) lg.1 env) h) _ := q
    refine ⟨B, ρ, h, env, s, er, Post.xm (q.bind.imp fun lg h1 ρ1 H1 e1 s1 q Jt hJ => ?_) (hx σ j)⟩
    have W := hJ B (fun _ b => b) (fun _ b => .inl b)
    refine ⟨fun i m σ H => m = lg.1.length - i ∧ i ≤ lg.1.length ∧ ∃ ρ h env, Ext ρ1 H1 ρ H ∧ SR (kf X) B ρ h H ∧ EnvR (kf X) B ρ H env σ ∧ J σ ∧ Post (kf X) B xc ρ H (forG lg.2 (forB t mb) (lg.1.drop i) env h) fun f _ ρ' H' => dnF (kf X) J B D f ρ' H',
      ⟨_, rfl, Nat.zero_le _, ρ1, h1, env, Ext.refl _ _, s1, er.mono e1, j, q⟩, ?_⟩
    rintro i m σ H ⟨rfl, hi, ρ, h, env, e, s, er, j, q⟩
    by_cases hlt : i < lg.1.length
    · rw [List.drop_eq_getElem_cons hlt, forG_cons] at q
      by_cases hgt : lg.2 h = true
      · rw [if_pos hgt] at q
        have hxx : lg.1[i]? = some lg.1[i] := List.getElem?_eq_getElem hlt
        refine .inr ⟨W.go ρ h H i _ e.w s hgt hxx, fun σ' H' => ∃ ρ h env, Ext ρ1 H1 ρ H' ∧ SR (kf X) B ρ h H' ∧ EnvR (kf X) B ρ H' env σ' ∧ J σ' ∧ Post (kf X) B xc ρ H' (forG lg.2 (forB t mb) (lg.1.drop (i + 1)) env h) fun f _ ρ' H' => dnF (kf X) J B D f ρ' H',
          fun σ' H' w => ⟨_, by omega, rfl, hlt, w⟩, fun v Hy hy => ?_⟩
        obtain ⟨ey, sy, ry, ky⟩ := W.yld ρ h H i _ v Hy e.w s hgt hxx hy
        have q := (q.base ey).bind
        unfold forB at q
        cases hbt : bindT t lg.1[i] env with
        | none => simp only [hbt] at q; exact q.elim
        | some e2 =>
          simp only [hbt] at q
          refine gT_okP (P := J) hpy (er.mono ey) ry hbt j hj fun σ' er' j' => ⟨B, ρ, h, e2, sy, er', j', q.imp fun f h2 ρ2 H2 e3 s2 q => ?_⟩
          cases f with
          | nx e4 => exact fun σ' er' j' => ⟨ρ2, h2, e4, (e.trans ey).trans e3, s2, er', j', q⟩
          | ct e4 => exact fun σ' er' j' => ⟨ρ2, h2, e4, (e.trans ey).trans e3, s2, er', j', q⟩
          | bk e4 => exact Post.pure q s2
          | rt v => exact Post.pure q s2
      · rw [if_neg hgt] at q
        exact q.elim
    · have el : i = lg.1.length := by omega
      subst el
      rw [List.drop_length, forG_nil] at q
      by_cases hgt : lg.2 h = true
      · rw [if_pos hgt] at q
        exact .inl ⟨W.stop ρ h H e.w s hgt, (q ρ H (Ext.refl _ _) s) σ er j⟩
      · rw [if_neg hgt] at q
        exact q.elim
end
end Y

/-! K6b: pairs of names stored at once, comprehensions named on one line -/
namespace Y
open PySem PySem.Spec PyProof.Rows L2

def isStar : Expr → Bool
  | .Starred .. => true
  | _ => false
def swB (sc : Scope) (ts vs : List Expr) : Option (Option (List Str)) :=
  if (!(ts.length == 2 || ts.length == 3) || vs.length != ts.length) = true then some none
  else if (vs.any fun | .Starred .. => true | _ => false) = true then some none
  else
    let line := (ts.head?.map (·.pos.line)).getD 0
    let names := ts.filterMap fun
      | .Name id pos => if sc.names.lookup id == some .local && pos.line == line then some id else none
      | _ => none
    if (names.length != ts.length || names.eraseDups.length != names.length) = true then some none
    else if vs.all (foldedForSure 8) = true then some none
    else if vs.all (constantsAlone 8) = true then none
    else some (some names)
def swP (sc : Scope) (tg e : Expr) : Option (Option (List Str)) :=
  match tg, e with
  | .Tuple ts _ _, .Tuple vs _ _ => swB sc ts vs
  | .List ts _, .Tuple vs _ _ => swB sc ts vs
  | _, _ => some none
theorem swB_ok {env : Env} (hk : env.scope.kind = .function) {ts vs : List Expr} {r : Option (List Str)} (h : swB env.scope ts vs = some r) {k k2 : Nat} {p p2 : Pos} : swappedStores [.Tuple ts k p] (.Tuple vs k2 p2) env = pure r := by
  have hb : env.blockKind = .function := by unfold Env.blockKind; rw [hk]; rfl
  unfold swB at h
  unfold swappedStores
  simp only [hb, pure_bind]
  split at h
  · rename_i h1
    cases h
    have : (!(ts.length == 2 || ts.length == 3) || vs.length != ts.length || (ScopeKind.function != ScopeKind.function)) = true := by rw [h1]; rfl
    rw [if_pos this]
    try rfl
  · rename_i h1
    have : ¬ (!(ts.length == 2 || ts.length == 3) || vs.length != ts.length || (ScopeKind.function != ScopeKind.function)) = true := by
      rw [Bool.not_eq_true] at h1 ⊢; rw [h1]; rfl
    rw [if_neg this]
    try simp only [pure_bind]
    split at h
    · rename_i h2
      cases h
      exact if_pos h2
    · rename_i h2
      refine (if_neg h2).trans ?_
      dsimp only at h
      split at h
      · rename_i h3
        cases h
        exact if_pos h3
      · rename_i h3
        refine (if_neg h3).trans ?_
        split at h
        · rename_i h4
          cases h
          exact if_pos h4
        · rename_i h4
          refine (if_neg h4).trans ?_
          split at h
          · cases h
          · rename_i h5
            cases h
            exact if_neg h5
theorem swP_none {env : Env} (hk : env.scope.kind = .function) {tg e : Expr} (hn : ∀ ts p, tg ≠ .List ts p) (h : swP env.scope tg e = some none) : swappedStores [tg] e env = pure none := by
  unfold swP at h
  split at h
  · exact swB_ok hk h
  · exact absurd rfl (hn _ _)
  · rename_i h1 h2
    cases tg <;> first | rfl | (exact absurd rfl (hn _ _)) | (cases e <;> first | rfl | (exact (h1 _ _ _ _ _ _ rfl rfl).elim))
def noComp : Expr → Bool
  | .ListComp .. => false
  | .SetComp .. => false
  | .DictComp .. => false
  | _ => true
theorem swaps_none {e : Expr} {t : Option Expr} {l : Nat} {env : Env} (h : noComp e = true) : swapsWith e t l env = pure false := by
  cases e <;> first | rfl | (cases h)
theorem swaps_tup {e : Expr} {ts : List Expr} {k : Nat} {p : Pos} {l : Nat} {env : Env} : swapsWith e (some (.Tuple ts k p)) l env = pure false := by
  cases e <;> rfl
theorem swaps_sub {e o i : Expr} {p : Pos} {l : Nat} {env : Env} : swapsWith e (some (.Subscript o i p)) l env = pure false := by
  cases e <;> rfl
def noSlice : Expr → Bool
  | .Slice .. => false
  | _ => true
theorem asg_sub {o i : Expr} {p : Pos} {env : Env} (h : noSlice i = true) (v : Value) : assign (.Subscript o i p) env v = (do
      let ov ← holding [v] (eval o env)
      let iv ← holding [v, ov] (eval i env)
      standAt p
      holding [v, ov, iv] (setItem ov iv v)
      release [v, ov, iv] []) := by
  cases i <;> first | rfl | (cases h)
theorem plain_ix {b : Expr} (h : noSlice b = true) : PlainIx b := by
  intro o i
  cases b <;> first | rfl | (cases h)
section
variable {X : Cx} {xw : L2.St → XW} {xc : XW} {J : L2.St → Prop}
theorem len2 {α} {l : List α} (h : l.length = 2) : ∃ a b, l = [a, b] := by
  match l, h with
  | [a, b], _ => exact ⟨a, b, rfl⟩
theorem len3 {α} {l : List α} (h : l.length = 3) : ∃ a b c, l = [a, b, c] := by
  match l, h with
  | [a, b, c], _ => exact ⟨a, b, c, rfl⟩
theorem s_par2 {i j : Nat} {x y : Str} {a b : Expr} {px py pt pos : Pos} {kt k2 : Nat} {pt2 : Pos} {m : Ev → M (List PV)} (hc : X.calm = true) (hN : X.N.Nodup) (hx : XOk xw xc J) (hj : JSet J [i, j]) (hi : X.N[i]? = some x) (hjn : X.N[j]? = some y) (hij : i ≠ j)
    (hlx : X.env.scope.names.lookup x = some .local) (hly : X.env.scope.names.lookup y = some .local) (ha : PA X [a, b] (dnL (kf X) xw m)) (hw : swappedStores [.Tuple [.Name x px, .Name y py] kt pt] (.Tuple [a, b] k2 pt2) X.env = pure (some [x, y])) :
    PS X (.Assign [.Tuple [.Name x px, .Name y py] kt pt] (.Tuple [a, b] k2 pt2) pos) (dnS (kf X) xc J (fun env => do let vs ← m env; lift (if vs.length = [i, j].length then some (.nx (setsE env [i, j] vs)) else none))) :=
  PS.mono (ps_par hc hN hi hjn hij hlx hly ha hw rfl) fun D σ H ⟨B, ρ, h, env, s, er, jj, q⟩ => by
    have q : Post (kf X) B (xw σ) ρ H ((m env >>= fun vs => lift (if vs.length = [i, j].length then some (Fl.nx (setsE env [i, j] vs)) else none)) h) _ := Post.xm q (hx σ jj)
    refine dnL_seq s er q fun xs h1 ρ1 H1 vs e1 s1 er1 rs q => ?_
    by_cases hl : xs.length = [i, j].length
    · rw [if_pos hl] at q
      obtain ⟨u, w, rfl⟩ := len2 hl
      obtain ⟨v1, r1, e1, a1, rs⟩ := rs.cons_inv
      obtain ⟨v2, r2, e2, a2, rs⟩ := rs.cons_inv
      have e3 := rs.nil_inv
      subst e3 e2 e1
      refine ⟨v1, v2, rfl, q ρ1 H1 (Ext.refl _ _) s1 _ ((er1.set a1).set a2) (hj j (by simp) _ _ (hj i (by simp) _ _ jj))⟩
    · rw [if_neg hl] at q
      exact q.elim
theorem s_par3 {i j l : Nat} {x y z : Str} {a b c : Expr} {px py pz pt pos : Pos} {kt k2 : Nat} {pt2 : Pos} {m : Ev → M (List PV)} (hc : X.calm = true) (hN : X.N.Nodup) (hx : XOk xw xc J) (hj : JSet J [i, j, l]) (hi : X.N[i]? = some x) (hjn : X.N[j]? = some y) (hl : X.N[l]? = some z) (hij : i ≠ j) (hil : i ≠ l) (hjl : j ≠ l)
    (hlx : X.env.scope.names.lookup x = some .local) (hly : X.env.scope.names.lookup y = some .local) (hlz : X.env.scope.names.lookup z = some .local) (ha : PA X [a, b, c] (dnL (kf X) xw m)) (hw : swappedStores [.Tuple [.Name x px, .Name y py, .Name z pz] kt pt] (.Tuple [a, b, c] k2 pt2) X.env = pure (some [x, y, z])) :
    PS X (.Assign [.Tuple [.Name x px, .Name y py, .Name z pz] kt pt] (.Tuple [a, b, c] k2 pt2) pos) (dnS (kf X) xc J (fun env => do let vs ← m env; lift (if vs.length = [i, j, l].length then some (.nx (setsE env [i, j, l] vs)) else none))) :=
  PS.mono (ps_par3 hc hN hi hjn hl hij hil hjl hlx hly hlz ha hw rfl) fun D σ H ⟨B, ρ, h, env, s, er, jj, q⟩ => by
    have q : Post (kf X) B (xw σ) ρ H ((m env >>= fun vs => lift (if vs.length = [i, j, l].length then some (Fl.nx (setsE env [i, j, l] vs)) else none)) h) _ := Post.xm q (hx σ jj)
    refine dnL_seq s er q fun xs h1 ρ1 H1 vs e1 s1 er1 rs q => ?_
    by_cases hl : xs.length = [i, j, l].length
    · rw [if_pos hl] at q
      obtain ⟨u, w, t, rfl⟩ := len3 hl
      obtain ⟨v1, r1, e1, a1, rs⟩ := rs.cons_inv
      obtain ⟨v2, r2, e2, a2, rs⟩ := rs.cons_inv
      obtain ⟨v3, r3, e3, a3, rs⟩ := rs.cons_inv
      have e4 := rs.nil_inv
      subst e4 e3 e2 e1
      refine ⟨v1, v2, v3, rfl, q ρ1 H1 (Ext.refl _ _) s1 _ (((er1.set a1).set a2).set a3) (hj l (by simp) _ _ (hj j (by simp) _ _ (hj i (by simp) _ _ jj)))⟩
    · rw [if_neg hl] at q
      exact q.elim
/-- kept as it is made, or taken over -/
def boxIf (b : Bool) (m : Ev → M PV) : Ev → M PV := if b then (fun env => do let v ← m env; boxM v) else m
theorem boxIf_wp {b : Bool} {m : Ev → M PV} (σ : L2.St) (H : Hp) (Q : VK) (q : dn (kf X) xw (boxIf b m) (!b) σ H Q) : dn (kf X) xw m true σ H Q := by
  cases b with
  | true => exact box_wp σ H Q q
  | false => exact q
theorem s_setLc {b pyb : Bool} {i : Nat} {y : Str} {py : Pos} {elt tg iter : Expr} {ifs : List Expr} {scope : Scope} {own : List (Str × Nat)} {pos spos : Pos} {t : Tg} {mI : Ev → M (List PV × (Hh → Bool))} {mf : Ev → M Bool} {me : Ev → M PV} {fr : Bool} {xc0 : XW} (hc : X.calm = true) (hN : X.N.Nodup) (hx : XOk xw xc J) (hj : JSet J [i]) (hy : X.N[i]? = some y)
    (hyl : X.env.scope.names.lookup y = some .local) (hsw : swapsWith (.ListComp elt [⟨tg, iter, ifs, 0⟩] scope pos) (some (.Name y py)) spos.line X.env = pure true) (ok : BlkOk X.N X.env.scope scope own)
    (ht : ∀ i ∈ tgs t, i ∈ own.map (·.2)) (hpy : pyb = true → isTpT t = true) (hi : PI X tg iter (dnI (kf X) xw pyb mI))
    (hg : ∀ (s : Shared) (H : Hp) (C : Addr) (cl : List (Str × Addr)) (fp : List Addr), PG (X.blk s H scope (compEnvC scope cl C X.env) fp) tg (gT (kf X) t)) (hf : ∀ (s : Shared) (H : Hp) (C : Addr) (cl : List (Str × Addr)) (fp : List Addr), PTs (X.blk s H scope (compEnvC scope cl C X.env) fp) ifs (dnB (kf X) (fun _ => xc0) mf))
    (he : ∀ (s : Shared) (H : Hp) (C : Addr) (cl : List (Str × Addr)) (fp : List Addr), PE (X.blk s H scope (compEnvC scope cl C X.env) fp) elt (dn (kf X) (fun _ => xc0) me fr)) (hs : ∀ x, foldedSetIterable iter X.env x = pure x) :
    PS X (.Assign [.Name y py] (.ListComp elt [⟨tg, iter, ifs, 0⟩] scope pos) spos) (dnS (kf X) xc J (asgM (.nm i) (boxIf b (lc1 t (own.map (·.2)) mI mf me)))) :=
  PS.mono (ps_setLc hc hN hy hyl hsw hi ok hg hf he hs) fun D σ H q => lc1_wp ht hpy σ H _ (boxIf_wp (b := b) σ H _ (asg_wp (t := .nm i) (fr := !b) hx hj D σ H q))
theorem s_setLc2 {b pyb pyb1 : Bool} {i : Nat} {y : Str} {py : Pos} {elt tg iter tg1 iter1 : Expr} {ifs ifs1 : List Expr} {scope : Scope} {own : List (Str × Nat)} {vs1 : List Nat} {pos spos : Pos} {t t1 : Tg} {mI mI1 : Ev → M (List PV × (Hh → Bool))} {mf mf1 : Ev → M Bool} {me : Ev → M PV} {fr : Bool} {xc0 : XW} (hc : X.calm = true) (hN : X.N.Nodup) (hx : XOk xw xc J) (hj : JSet J [i]) (hy : X.N[i]? = some y)
    (hyl : X.env.scope.names.lookup y = some .local) (hsw : swapsWith (.ListComp elt [⟨tg, iter, ifs, 0⟩, ⟨tg1, iter1, ifs1, 0⟩] scope pos) (some (.Name y py)) spos.line X.env = pure true) (ok : BlkOk X.N X.env.scope scope own)
    (hv : ∀ i ∈ vs1, i ∈ own.map (·.2)) (ht : ∀ i ∈ tgs t, i ∈ own.map (·.2)) (ht1 : ∀ i ∈ tgs t1, i ∈ vs1) (hpy : pyb = true → isTpT t = true) (hpy1 : pyb1 = true → isTpT t1 = true) (hi : PI X tg iter (dnI (kf X) xw pyb mI))
    (hg : ∀ (s : Shared) (H : Hp) (C : Addr) (cl : List (Str × Addr)) (fp : List Addr), PG (X.blk s H scope (compEnvC scope cl C X.env) fp) tg (gT (kf X) t)) (hf : ∀ (s : Shared) (H : Hp) (C : Addr) (cl : List (Str × Addr)) (fp : List Addr), PTs (X.blk s H scope (compEnvC scope cl C X.env) fp) ifs (dnB (kf X) (fun _ => xc0) mf))
    (hi1 : ∀ (s : Shared) (H : Hp) (C : Addr) (cl : List (Str × Addr)) (fp : List Addr), PI (X.blk s H scope (compEnvC scope cl C X.env) fp) tg1 iter1 (dnI (kf X) (fun _ => xc0) pyb1 mI1)) (hg1 : ∀ (s : Shared) (H : Hp) (C : Addr) (cl : List (Str × Addr)) (fp : List Addr), PG (X.blk s H scope (compEnvC scope cl C X.env) fp) tg1 (gT (kf X) t1))
    (hf1 : ∀ (s : Shared) (H : Hp) (C : Addr) (cl : List (Str × Addr)) (fp : List Addr), PTs (X.blk s H scope (compEnvC scope cl C X.env) fp) ifs1 (dnB (kf X) (fun _ => xc0) mf1))
    (he : ∀ (s : Shared) (H : Hp) (C : Addr) (cl : List (Str × Addr)) (fp : List Addr), PE (X.blk s H scope (compEnvC scope cl C X.env) fp) elt (dn (kf X) (fun _ => xc0) me fr)) (hs : ∀ x, foldedSetIterable iter X.env x = pure x) (hs1 : ∀ (env : Env) (x : Value), foldedSetIterable iter1 env x = pure x) :
    PS X (.Assign [.Name y py] (.ListComp elt [⟨tg, iter, ifs, 0⟩, ⟨tg1, iter1, ifs1, 0⟩] scope pos) spos) (dnS (kf X) xc J (asgM (.nm i) (boxIf b (lc2 t (own.map (·.2)) mI mf t1 vs1 mI1 mf1 me)))) :=
  PS.mono (ps_setLc2 hc hN hy hyl hsw hi ok hv hg hf hi1 hg1 hf1 he hs hs1) fun D σ H q => lc2_wp ht ht1 hpy hpy1 σ H _ (boxIf_wp (b := b) σ H _ (asg_wp (t := .nm i) (fr := !b) hx hj D σ H q))
end
end Y

/-! K6c: x += e; a[i], b[j] = e -/
namespace Y
open PySem PySem.Spec PyProof.Rows L2
section
variable {X : Cx} {xw : L2.St → XW} {xc : XW} {J : L2.St → Prop} {cf : CF}
theorem s_aug {i : Nat} {x : Str} {e : Expr} {op : Operator} {o : Op2} {p pos : Pos} {me : Ev → M PV} {fe : Bool} (hx : XOk xw xc J) (hj : JSet J [i]) (hN : X.N.Nodup) (hi : X.N[i]? = some x) (hl : Loc X.env.scope x) (hf : X.fn x = true ∨ X.env.scope.names.lookup x = some .local)
    (he : PE X e (dn (kf X) xw me fe)) (ho : (o = .add ∧ op = .Add) ∨ (o = .sub ∧ op = .Sub)) : PS X (.AugAssign (.Name x p) op e pos) (dnS (kf X) xc J (fun env => do
      let x ← evE cf (.var i) env
      let y ← me env
      fun h => lift ((augV o x y).map fun z => .nx (env.set i (some z))) h)) := by
  have key : ∀ {f : Int → Int → Int}, PIp X op (ipI f) → (∀ (x y z : PV), augV o x y = some z → ∃ a b, x = .int a ∧ y = .int b ∧ z = .int (f a b)) → PS X (.AugAssign (.Name x p) op e pos) (dnS (kf X) xc J (fun env => do
      let x ← evE cf (.var i) env
      let y ← me env
      fun h => lift ((augV o x y).map fun z => .nx (env.set i (some z))) h)) := by
    intro f hop hv
    refine PS.mono (ps_aug hN hi hl he hop hf) fun D σ H ⟨B, ρ, h, env, s, er, j, q⟩ => ?_
    have q := q.bind
    rw [evE] at q
    cases hvar : env[i]? with
    | none => rw [hvar] at q; exact q.elim
    | some ov =>
      cases ov with
      | none => rw [hvar] at q; exact q.elim
      | some v =>
        rw [hvar] at q
        have q : Post (kf X) B xc ρ H _ _ := q ρ H (Ext.refl _ _) s
        obtain ⟨w, hw, rw_⟩ := er.2 i v hvar
        refine ⟨w, hw, dn_seq s er (Post.xm q (hx σ j)) fun y h1 ρ1 H1 u e1 s1 er1 r1 _ q => ?_⟩
        have q : Post (kf X) B (xw σ) ρ1 H1 (lift ((augV o v y).map fun z => Fl.nx (env.set i (some z))) h1) _ := q
        cases hz : augV o v y with
        | none => rw [hz] at q; exact q.elim
        | some z =>
          rw [hz] at q
          have q := q ρ1 H1 (Ext.refl _ _) s1
          obtain ⟨a, b, rfl, rfl, rfl⟩ := hv _ _ _ hz
          have e2 : w = .int a := by simpa only [Rel] using rw_
          have e3 : u = .int b := by simpa only [Rel] using r1
          subst e2 e3
          exact ⟨a, b, rfl, rfl, q _ (er1.set (by simp only [Rel])) (hj i (by simp) _ _ j)⟩
  rcases ho with ⟨rfl, rfl⟩ | ⟨rfl, rfl⟩
  · refine key ip_add fun x y z e => ?_
    unfold augV at e
    split at e <;> try contradiction
    · cases e; exact ⟨_, _, rfl, rfl, rfl⟩
  · refine key ip_sub fun x y z e => ?_
    unfold augV at e
    split at e <;> try contradiction
    · cases e; exact ⟨_, _, rfl, rfl, rfl⟩
theorem s_swp {o1 i1 o2 i2 e : Expr} {k : Nat} {p1 p2 p pos : Pos} {mo1 mi1 mo2 mi2 me : Ev → M PV} {fo1 fi1 fo2 fi2 fe : Bool} (hr : ∃ k, Room k X.A) (hc : X.calm = true) (hx : XOk xw xc J) (he : PE X e (dn (kf X) xw me fe)) (ho1 : PE X o1 (dn (kf X) xw mo1 fo1)) (hi1 : PE X i1 (dn (kf X) xw mi1 fi1)) (ho2 : PE X o2 (dn (kf X) xw mo2 fo2)) (hi2 : PE X i2 (dn (kf X) xw mi2 fi2))
    (hs : swapsWithSole [.Tuple [.Subscript o1 i1 p1, .Subscript o2 i2 p2] k p] e pos.line X.env = pure false) (hw : swappedStores [.Tuple [.Subscript o1 i1 p1, .Subscript o2 i2 p2] k p] e X.env = pure none) (n1 : noSlice i1 = true) (n2 : noSlice i2 = true) :
    PS X (.Assign [.Tuple [.Subscript o1 i1 p1, .Subscript o2 i2 p2] k p] e pos) (dnS (kf X) xc J (fun env => do
      let v ← me env
      match v with
      | .tup [a, b] => do
        let x ← mo1 env
        let y ← mi1 env
        setV x y a
        let x2 ← mo2 env
        let y2 ← mi2 env
        setV x2 y2 b
        pure (.nx env)
      | _ => M.err)) := by
  obtain ⟨r, hr1, hk⟩ := set_ok (X := X) hr
  have noex : ∀ {o i x : PV} {h : Hh} {c : Nat} {fs : List PV} {h' : Hh}, setV o i x h ≠ .ex c fs h' := by
    intro o i x h c fs h' hz
    unfold setV at hz
    (repeat' split at hz) <;> cases hz
  refine PS.mono (ps_asg he (pg_tup hc (pgs_cons (pg_sub ho1 hi1 hr1 (asg_sub n1)) (pgs_cons (pg_sub ho2 hi2 hr1 (asg_sub n2)) pgs_nil))) hs hw rfl) fun D σ H ⟨B, ρ, h, env, s, er, j, q⟩ => ?_
  refine dn_seq s er (Post.xm q (hx σ j)) fun v h1 ρ1 H1 w e1 s1 er1 r1 _ q => ?_
  have tup : ∀ l, v = .tup l → ∃ a b, l = [a, b] := by
    rintro l rfl
    match l, q with
    | [a, b], _ => exact ⟨a, b, rfl⟩
    | [], q => exact q.elim
    | [_], q => exact q.elim
    | _ :: _ :: _ :: _, q => exact q.elim
  cases v with
  | tup l =>
    obtain ⟨a, b, rfl⟩ := tup _ rfl
    obtain ⟨ad, vs, rfl, f, z, rs⟩ := r1.tup_inv
    obtain ⟨wa, us, rfl, ra, rs⟩ := rs.cons_inv
    obtain ⟨wb, us, rfl, rb, rs⟩ := rs.cons_inv
    obtain rfl := rs.nil_inv
    have q : Post (kf X) B (xw σ) ρ1 H1 ((mo1 env >>= fun x => (mi1 env >>= fun y => (setV x y a >>= fun _ => (mo2 env >>= fun x => (mi2 env >>= fun y => (setV x y b >>= fun _ => (pure (Fl.nx env) : M Fl))))))) h1) _ := q
    refine ⟨ad, [wa, wb], rfl, tup_sq f, rfl, wa, [wb], rfl, ?_⟩
    refine dn_seq s1 er1 q fun y h2 ρ2 H2 w e2 s2 er2 r2 _ q => dn_seq s2 er2 q fun z h3 ρ3 H3 u e3 s3 er3 r3 _ q => ?_
    have q := q.bind
    cases hz : setV y z a h3 with
    | ok u1 h4 =>
      rw [hz] at q
      refine hk s3 (r2.mono e3) r3 ((ra.mono e2).mono e3) hz fun H' e' s' => ?_
      have q := q ρ3 H' e' s'
      refine ⟨wb, [], rfl, ?_⟩
      refine dn_seq s' (er3.mono e') q fun y h5 ρ5 H5 w e5 s5 er5 r5 _ q => dn_seq s5 er5 q fun z h6 ρ6 H6 u e6 s6 er6 r6 _ q => ?_
      have q := q.bind
      cases hz : setV y z b h6 with
      | ok u1 h4 =>
        rw [hz] at q
        refine hk s6 (r5.mono e6) r6 (((((rb.mono e2).mono e3).mono e').mono e5).mono e6) hz fun H7 e7 s7 => ?_
        exact ⟨rfl, (Post.pure (q ρ6 H7 e7 s7) s7) σ (er6.mono e7) j⟩
      | ex c fs h4 => exact absurd hz noex
      | err => rw [hz] at q; exact q.elim
    | ex c fs h4 => exact absurd hz noex
    | err => rw [hz] at q; exact q.elim
  | _ => exact q.elim
end
end Y

/-! X1: an own exception class whose __init__ says super().__init__(..) -/
namespace Y
open PySem PySem.Spec PyProof.Rows L2
/-- what must be known of the class at C, its __init__ at f (code c, cell cc) -/
structure SupF (P : Program) (K : PySem.W.Frag) (f c cc C : Addr) : Prop where
  fn : ∃ oc od osl fd ar, K.lookup f = some ⟨oc, od, .func fd, osl⟩ ∧ (fd.params.posonlyargs ++ fd.params.args).head? = some ar ∧ ar.arg = "self"
  code : ∃ ccl cdd vs ccs file tf, K.lookup c = some ⟨ccl, cdd, .fields vs, ccs⟩ ∧ vs[2]? = some (.str file tf) ∧ ((P.main.file : Str) == file) = true
  cell : ∃ cl cld csl, K.lookup cc = some ⟨cl, cld, .cell (some (.ref C)), csl⟩
  sub : PySem.W.mroIn K C (.ref C) = some true
  opq : PySem.W.nsIn K cStatics "thirdparty.any" = some none
  along : PySem.W.ks_superIn K C C "__init__" = some (some (.builtin "ValueError.__init__"))
  subV : PySem.W.subIn K (.ref C) (.type "ValueError") = some true
  top : (P.main.scope.names.lookup ("super" : Str)).isSome = false
theorem boot_super : bootBuiltins "super" = some (.type "super") := by first | rfl | kernel_rfl | decide +kernel
section
variable {X : Cx} {σ : L2.St} {H : Hp} {s : Shared} {f c cc C a : Addr} {e : Expr} {es : List Expr} {ta : TA} {body : List Stmt} {p0 p1 p2 p3 p4 p5 : Pos}
theorem call_mw {us : List Value} {u : Addr} {Q : Value → Shared → Prop} (T : OexC X.K C) {pins : List (Addr × Obj)} (I : Inv X pins σ H s) (ea : H a = some (exo a C none)) (hu : s.heap.get? u = some (PySem.W.kxs_mw "ValueError.__init__" a)) (hl : us.length ≤ sizeLine)
    (h : ∀ s', Inv X pins σ H s' → Q .none s') : wpAny (model X.prog X.w) X.A (call (.ref u) us) Q X.xe s := by
  obtain ⟨nm, q, N, bs, bm, sn, sub, ab, col, dd, k0, k1, k2, k3, k5, hC, hbm⟩ := T.cls
  obtain ⟨t1, ho⟩ := exo_at I.hok ea
  obtain ⟨hp, g, d, t, os⟩ := s
  refine wpAny_call (codeAny_of_tree ?_)
  show wpAny _ X.A.in1 (callAny (.ref u) ⟨us, []⟩) _ _ _
  simp only [callAny]
  refine wpAny_bind (wpAny_load hu ?_)
  simp only [PySem.W.kxs_mw, show (Value.type "method-wrapper" == Value.type "method" || Value.type "method-wrapper" == Value.type "builtin_function_or_method" || Value.type "method-wrapper" == Value.type "method-wrapper") = true by decide, if_true]
  refine PySem.W.KFB.if_so (by decide) ?_
  refine wpAny_bind (PySem.W.check_bound_init PySem.F.excBase_ValueError.toExcCallFacts (I.kIn _ _ hC) ho rfl ?_)
  refine wpAny_bind (wpAny_pure (wpAny_pure ?_))
  refine ⟨plainId_quiet PySem.F.excBase_ValueError.init.plain _, codeAny_builtin PySem.F.excBase_ValueError.initEntry ?_⟩
  refine PySem.W.exc_init_tree (cls := .ref C) (t0 := t1) (dv := none) (c2 := .none) (c3 := .none) (b4 := .bool false) ho hl fun h' k hx _ => ?_
  have J := I.write (t' := t) (x := a) (e := a) (o := exo a C none) (by rw [ea]; exact True.intro) (.inl rfl) k ⟨_, hx⟩ (exo_ok hx)
  have eu : upd H a (exo a C none) = H := by
    funext b
    by_cases hb : b = a
    · rw [hb, upd_same, ea]
    · rw [upd_ne hb]
  rw [eu] at J
  exact h _ J
theorem super_first {pl : Sem Bool} (S : SupF X.prog X.K f c cc C) (T : OexC X.K C) (hks : X.env.kindOf "super" = some .globalImplicit) (hkc : X.env.kindOf "__class__" = some .free) (hka : X.env.kindOf "self" = some .local) (hfu : X.env.func = some f) (hco : X.env.code = .ref c) (hcl : X.env.cells.lookup ("__class__" : Str) = some cc)
    (hmg : X.mg "super" = none) (hN : X.N[0]? = some ("self" : Str)) (I : Inv X [] σ H s) (hs0 : σ[0]? = some (some (V.ref a))) (ea : H a = some (exo a C none)) (ha : PA X (e :: es) ta) (q : ta σ H fun vs H1 => vs.length ≤ 1000 ∧ H1 = H)
    (he : starEach (e :: es) X.env = (false, eval e X.env) :: starEach es X.env) (hpl : (backTo p3 (starEach es X.env)).any (·.1) = false)
    (hev : eval (.Call (.Attribute (.Call (.Name "super" p0) [] [] p1) "__init__" p2) (e :: es) [] p3) X.env = (do
      let ov ← attributeBase (.Call (.Name "super" p0) [] [] p1) "__init__" X.env (eval (.Call (.Name "super" p0) [] [] p1) X.env)
      standAt p2.atName
      let (f, first) ← holding [ov] (getMethod ov "__init__" pl)
      callWith p3 f first (backTo p3 (starEach (e :: es) X.env)) []))
    (hi : interactive X.env = false) (hsw : swapsWith (.Call (.Attribute (.Call (.Name "super" p0) [] [] p1) "__init__" p2) (e :: es) [] p3) none p4.line X.env = pure false) :
    PySem.wpAt (model X.prog X.w) X.A (.func body X.env) (exec (.Expr (.Call (.Attribute (.Call (.Name "super" p0) [] [] p1) "__init__" p2) (e :: es) [] p3) p4) X.env) (fun fl s' => fl = .next ∧ Inv X [] σ H s') X.xe s := by
  obtain ⟨oc, od, osl, fd, ar, hf, hp, har⟩ := S.fn
  obtain ⟨ccl, cdd, vs, ccs, file, tf, hcode, hvs, hfile⟩ := S.code
  obtain ⟨cl, cld, csl, hcell⟩ := S.cell
  obtain ⟨nm, qn, N, bs, bm, sn, sub, ab, col, dd, k0, k1, k2, k3, k5, hC, hbm⟩ := T.cls
  have KX := I.kIn
  obtain ⟨t1, ho⟩ := exo_at I.hok ea
  obtain ⟨mb, hb1, hb2⟩ := I.mod.blt
  obtain ⟨m, hm, hlk⟩ := I.loc
  have hself : m ("self" : Str) = some (.ref a) := by
    obtain ⟨u, ru, lk⟩ := hlk 0 _ _ hN hs0 (.inl hka)
    obtain rfl : u = Value.ref a := ru
    rcases lk with ⟨_, e⟩ | ⟨e, _⟩
    · exact e
    · rcases e with e | e <;> (rw [hka] at e; cases e)
  have hkk := I.ok.kind
  have hD1 := KX _ _ hC
  obtain ⟨hh, g, d, t, os⟩ := s
  refine PySem.ks_wpAt_Expr_any ?_ hi hsw
  refine PySem.ks_wpAt_MethodCall ?_ hev
  refine PySem.ks_wpAt_super_base hks hkc rfl hfu (KX _ _ hf) rfl hp hco (KX _ _ hcode) rfl hvs hfile S.top ?_
  refine PySem.W.ks_loadName_global hkk hks (Calls.loadGlobal_builtin (by rw [I.ok.glob]; exact I.mod.glob.keeps I.bk) hmg (by rw [I.ok.blt]; exact hb1.keeps I.bk) ((hb2 _ (by decide +kernel)).trans boot_super) ⟨rfl, ?_⟩)
  refine wpAny_loadName_free hkk hkc hcl ⟨_, KX _ _ hcell, rfl⟩ ?_
  rw [har]
  refine wpAny_loadName_local hkk hka hm hself ?_
  refine PySem.ks_wpAny_isType_cls hD1 rfl ⟨rfl, ?_⟩
  refine PySem.ks_wpAny_call_super hD1 rfl ho rfl (fun c e => by cases e) (PySem.W.looks_mroIn KX S.sub) (fun h' e1 k1 => ?_)
  have I1 : Inv X [] σ H ⟨h', g, d, t, os⟩ := I.kept k1
  have K1 := I1.kIn
  have ho1 := k1 _ _ ho
  obtain ⟨cd, hcd⟩ : ∃ cd, PySem.W.clsIn X.K C = some cd := ⟨_, by unfold PySem.W.clsIn; rw [hC]⟩
  have hal := S.along
  unfold PySem.W.ks_superIn at hal
  rw [hcd] at hal
  have neC : a ≠ C := fun z => by
    rw [z] at ho
    rw [hD1] at ho
    cases ho
  have II : PySem.W.InstAt h' a { cls := .ref C, dict := none, data := .fields #[.ref t1, .none, .none, .none, .bool false, .none] } C none := ⟨ho1, rfl, rfl, trivial⟩
  refine PySem.W.kxs_getMethod PySem.W.kxs_ValueError e1 (PySem.W.looks_opaque K1 S.opq) (l₀ := cd.mro) ?_ rfl K1 hal (II.type.andThen (PySem.W.looks_subIn K1 S.subV)) neC (by decide) ?_
  · exact fun A Q E s k q => wpAny_bind ((PySem.W.looks_clsIn K1 hcd) A _ E s k (wpAny_pure q))
  have k2 : ∀ b o, h'.get? b = some o → (h'.push (PySem.W.kxs_mw "ValueError.__init__" a)).get? b = some o := fun b o e => Heap.get?_push_of_some _ e
  have I2 : Inv X [] σ H ⟨h'.push (PySem.W.kxs_mw "ValueError.__init__" a), g, d, t + 1, os⟩ := I1.kept k2
  have hu2 : (h'.push (PySem.W.kxs_mw "ValueError.__init__" a)).get? h'.objs.size = some (PySem.W.kxs_mw "ValueError.__init__" a) := Heap.get?_push_at rfl rfl
  have hfu' : H h'.objs.size = none := I1.hok.fresh (Nat.le_refl _)
  have I3 : Inv X [(h'.objs.size, PySem.W.kxs_mw "ValueError.__init__" a)] σ H ⟨h'.push (PySem.W.kxs_mw "ValueError.__init__" a), g, d, t + 1, os⟩ := by
    refine I2.pins_of fun p hp => ?_
    simp only [List.mem_singleton] at hp
    subst hp
    exact ⟨hu2, hfu', fun z => absurd I1.lt (by show ¬ _; rw [← z]; exact Nat.lt_irrefl _), I1.nofs (Nat.le_refl _), fun v z => by cases z⟩
  refine PySem.W.kxs_callWith (i := "ValueError.__init__") (x := a) (by rw [he]; show (false || (backTo p3 (starEach es X.env)).any (·.1)) = false; rw [hpl]; rfl) ?_
  rw [he]
  have hr := ha.run p3 _ _ σ H _ I3 q
  rw [he] at hr
  refine PySem.Calls.evalArgs_plain (thn hr fun us s1 ⟨vs1, H1, J1, r1, hl, eH⟩ => ?_)
  subst eH
  have hu := (J1.pin (h'.objs.size, PySem.W.kxs_mw "ValueError.__init__" a) (List.mem_append_right _ (List.mem_singleton.mpr rfl))).1
  have J2 : Inv X [] σ H1 s1 := J1.pins_of fun p hp => by cases hp
  refine ⟨hu, ?_⟩
  exact call_mw T J2 ea hu (by show us.length ≤ sizeLine; rw [← Paired.length r1, sizeLine_eq]; omega) fun s' J => ⟨rfl, J⟩
end
end Y

/-! X2: such an __init__'s promise -/
namespace Y
open PySem PySem.Spec PyProof.Rows L2 NdefX
section
variable {CX : CXT} {P : Program} {w : World} {K : PySem.W.Frag} {mg : Str → Option Value} {base : Heap} {k : Nat} {f cc c : Addr} {name qual : Str} {params : Arguments} {body : List Stmt} {scope : Scope} {dV kV doc pm ct oc : Value} {an od : Option Addr}
    {osl : Array (Option Value)} {N ps : List Str} {sp : Sp}
abbrev nfC (name qual : Str) (params : Arguments) (body : List Stmt) (scope : Scope) (cc c : Addr) : NF := ⟨name, qual, params, body, scope, [(("__class__" : Str), cc)], c⟩
theorem fn_ofC (lk : K.lookup f = some ⟨oc, od, .func (PySem.W.fnX name qual params body scope [(("__class__" : Str), cc)] dV kV doc pm an (.ref c) ct), osl⟩) (hcd : PySem.W.codeIn K (.ref c) qual = true) (S : NScope N ps [("__class__" : Str)] scope)
    (hcell : ∃ cl cld csl v, K.lookup cc = some ⟨cl, cld, .cell (some v), csl⟩) (len : ∀ vs H Q E, sp vs H Q E → vs.length = ps.length)
    (hbody : ∀ (A : Around) (outer : List Env) (s : Shared) (H : Hp) (vs : List V) (Q : VK) (E : XK) (s1 : Shared), Room k (ncx CX P w K mg base N (nfC name qual params body scope cc c) f A outer s H E).A → sp vs H Q E →
      Inv (ncx CX P w K mg base N (nfC name qual params body scope cc c) f A outer s H E) [] (startF N vs [none]) H s1 →
      PySem.wpAt (model P w) (ncx CX P w K mg base N (nfC name qual params body scope cc c) f A outer s H E).A (.func body (envF (nfC name qual params body scope cc c) f s.heap.objs.size)) (execs body (envF (nfC name qual params body scope cc c) f s.heap.objs.size))
        (SP (ncx CX P w K mg base N (nfC name qual params body scope cc c) f A outer s H E) [] { nx := fun _ H' => Q .non H', rt := Q }) (ncx CX P w K mg base N (nfC name qual params body scope cc c) f A outer s H E).xe s1) :
    FnOk P w K mg base CX (k + 1) f (PySem.W.fnX name qual params body scope [(("__class__" : Str), cc)] dV kV doc pm an (.ref c) ct) ps sp := by
  refine ⟨len, fun A outer s H args us vs Q E hr e0 hb r hsp => ?_⟩
  have hl := len _ _ _ _ hsp
  have KX : K.In s.heap := e0.mod.kin.keeps fun b o e => (e0.bs b o e).1
  have KB : K.In base := e0.mod.kin
  have lim : s.heap.NoLimit := e0.mod.nolimit.keeps fun b o e => (e0.bs b o e).1
  obtain ⟨cl, cld, csl, v, hc⟩ := hcell
  have CA : CellsAt [(("__class__" : Str), cc)] [("__class__" : Str)] [none] s.heap H := by
    have one : ∀ {y : Str} {d : Addr}, [(("__class__" : Str), cc)].lookup y = some d → y = "__class__" ∧ d = cc := by
      intro y d e
      by_cases h : y = ("__class__" : Str)
      · subst h
        simp at e
        exact ⟨rfl, e.symm⟩
      · have : (y == ("__class__" : Str)) = false := by simp [h]
        simp [List.lookup, this] at e
    refine ⟨rfl, fun y d e => ?_, fun x y d e1 e2 => ?_, fun i y e => ?_⟩
    · obtain ⟨_, rfl⟩ := one e
      exact ⟨(e0.bs _ _ (KB _ _ hc)).2, some v, _, KX _ _ hc, rfl⟩
    · rw [(one e1).1, (one e2).1]
    · have hi : y = "__class__" ∧ i = 0 := by
        cases i with
        | zero => simp at e; exact ⟨e.symm, rfl⟩
        | succ i => simp at e
      obtain ⟨rfl, rfl⟩ := hi
      refine ⟨cc, by simp, fun v h => ?_⟩
      simp at h
  refine codeAny_call_function hr.depth (KX _ _ lk) rfl S.co S.gen rfl (PySem.W.codeRec_of KX hcd) (hb _ _ _ _ ?_)
  refine wpAny_newFunctionEnv S.nocell (fun ⟨n, _⟩ hy => S.par n (List.of_mem_zip hy).1) (fun h₁ hns hsb => ⟨lim.fresh _ hsb, ?_⟩) S.kind
  have kp : ∀ b o, s.heap.get? b = some o → h₁.get? b = some o := fun b o e => hsb.extBut b o (Nat.ne_of_lt (Heap.lt_size e)) (Heap.get?_push_of_some _ e)
  have I : Inv (ncx CX P w K mg base N (nfC name qual params body scope cc c) f A outer s H E) [] (startF N vs [none]) H { s with heap := h₁, toks := s.toks + (ps.zip us).length } := inv_startN S hr.hd e0 hl r CA hns kp
  have hq := hbody A outer s H vs Q E _ (hr.deeper _) hsp I
  refine PySem.ks_codeAny_funcAt (PySem.ks_wpAt_mono hq (fun fl s' hs => ?_) fun e s' hs => hs)
  have fin : ∀ {σ' : L2.St} {H' : Hp} {v : V} {u : Value}, Inv (ncx CX P w K mg base N (nfC name qual params body scope cc c) f A outer s H E) [] σ' H' s' → L2.RelV v u → Q v H' → CE outer P w H s Q u s' :=
    fun {σ' H' v u} J rv q => ⟨v, H', J.os, J.bare, J.base, J.hok, rv, q⟩
  cases fl with
  | ret u =>
    obtain ⟨v, σ', H', J, rv, q⟩ := hs
    exact fin J rv q
  | next =>
    obtain ⟨σ', H', J, q⟩ := hs
    exact fin (v := V.non) (u := Value.none) J rfl q
  | brk =>
    obtain ⟨_, _, _, q⟩ := hs
    exact False.elim q
  | cont =>
    obtain ⟨_, _, _, q⟩ := hs
    exact False.elim q
end
end Y

/-! X3: __init__ of one field, of two -/
namespace Y
open PySem PySem.Spec PyProof.Rows L2 NdefX
/-- its promise: fs the fields' names -/
def spIni (C : Addr) (fs : List Str) : Sp := fun vs H Q _ => ∃ a ws, vs = V.ref a :: ws ∧ ws.length = fs.length ∧ H a = some (exo a C none) ∧
  ∀ H2 d, H d = none → d ≠ a → H2 a = some (exo a C (some d)) → H2 d = some (exd d (fs.zip ws).reverse) → (∀ b, b ≠ a → b ≠ d → H2 b = H b) → Q .non H2
abbrev superX (es : List Expr) (p0 p1 p2 p3 : Pos) : Expr := .Call (.Attribute (.Call (.Name "super" p0) [] [] p1) "__init__" p2) es [] p3
abbrev asgF (f : Str) (p1 p2 p3 p4 : Pos) : Stmt := .Assign [.Attribute (.Name "self" p1) f p2] (.Name f p3) p4
def plC (o : Expr) (env : Env) : Sem Bool := do return (← importBound o env).getD true
theorem hev_ok {o : Expr} {name : Str} {apos pos : Pos} {args : List Expr} {env : Env} (hl : (apos.endLine == pos.line) = true) (hf : methodCallForm (args.length + 0) (backTo pos (starEach args env)) [] = true) :
    eval (.Call (.Attribute o name apos) args [] pos) env = (do
      let ov ← attributeBase o name env (eval o env)
      standAt apos.atName
      let (f, first) ← holding [ov] (getMethod ov name (plC o env))
      callWith pos f first (backTo pos (starEach args env)) []) := by
  show (do
    let ov ← attributeBase o name env (eval o env)
    standAt apos.atName
    methodCall o name apos pos env ov (args.length + 0) (backTo pos (starEach args env)) []) = _
  unfold methodCall calleeOf methodCallPos
  rw [hf, hl]
  simp
  rfl
section
variable {CX : CXT} {P : Program} {w : World} {K : PySem.W.Frag} {mg : Str → Option Value} {base : Heap} {k : Nat} {f cc c C : Addr} {name qual f1 f2 : Str} {params : Arguments} {scope : Scope} {dV kV doc pm ct oc : Value} {an od : Option Addr}
    {osl : Array (Option Value)} {p0 p1 p2 p3 p4 p5 p6 q1 q2 q3 q4 r1 r2 r3 r4 : Pos}
/-- what is asked of the scope -/
structure IniS (ps : List Str) (scope : Scope) : Prop where
  ns : NScope (ps ++ [("__class__" : Str)]) ps [("__class__" : Str)] scope
  ks : scope.names.lookup ("super" : Str) = some .globalImplicit
theorem init_ok2 (lk : K.lookup f = some ⟨oc, od, .func (PySem.W.fnX name qual params [.Expr (superX [.Name f1 p5, .Name f2 p6] p0 p1 p2 p3) p4, asgF f1 q1 q2 q3 q4, asgF f2 r1 r2 r3 r4] scope [(("__class__" : Str), cc)] dV kV doc pm an (.ref c) ct), osl⟩)
    (hcd : PySem.W.codeIn K (.ref c) qual = true) (S : IniS ["self", f1, f2] scope) (F : SupF P K f c cc C) (T : OexC K C) (hmg : mg "super" = none) (hline : (p2.endLine == p3.line) = true) (n1 : PySem.W.findIn K (.ref C) f1 = some none) (n2 : PySem.W.findIn K (.ref C) f2 = some none)
    (d1 : (f1 == ("__debug__" : Str)) = false) (d2 : (f2 == ("__debug__" : Str)) = false) (e1 : (f1 == ("__classdict__" : Str)) = false) (e2 : (f2 == ("__classdict__" : Str)) = false) :
    FnOk P w K mg base CX (k + 1) f (PySem.W.fnX name qual params [.Expr (superX [.Name f1 p5, .Name f2 p6] p0 p1 p2 p3) p4, asgF f1 q1 q2 q3 q4, asgF f2 r1 r2 r3 r4] scope [(("__class__" : Str), cc)] dV kV doc pm an (.ref c) ct) ["self", f1, f2] (spIni C [f1, f2]) := by
  obtain ⟨cl, cld, csl, hcell⟩ := F.cell
  refine fn_ofC lk hcd S.ns ⟨cl, cld, csl, _, hcell⟩ (fun vs H Q E ⟨a, ws, e, hl, _⟩ => by rw [e]; simp [hl]) fun A outer s H vs Q E s1 hr ⟨a, ws, ev, hl, ea, q⟩ I => ?_
  subst ev
  obtain ⟨y1, y2, rfl⟩ : ∃ y1 y2, ws = [y1, y2] := by
    match ws, hl with
    | [y1, y2], _ => exact ⟨y1, y2, rfl⟩
  have l0 := S.ns.par "self" (by simp)
  have l1 := S.ns.par f1 (by simp)
  have l2 := S.ns.par f2 (by simp)
  have lc := S.ns.frk "__class__" (by simp)
  generalize hX : ncx CX P w K mg base ([("self" : Str), f1, f2] ++ [("__class__" : Str)]) (nfC name qual params [.Expr (superX [.Name f1 p5, .Name f2 p6] p0 p1 p2 p3) p4, asgF f1 q1 q2 q3 q4, asgF f2 r1 r2 r3 r4] scope cc c) f A outer s H E = X at I hr ⊢
  have X1 : X.prog = P := by rw [← hX]; rfl
  have X2 : X.K = K := by rw [← hX]; rfl
  have X3 : X.env = envF (nfC name qual params [.Expr (superX [.Name f1 p5, .Name f2 p6] p0 p1 p2 p3) p4, asgF f1 q1 q2 q3 q4, asgF f2 r1 r2 r3 r4] scope cc c) f s.heap.objs.size := by rw [← hX]; rfl
  have X4 : X.N = [("self" : Str), f1, f2, "__class__"] := by rw [← hX]; rfl
  have X5 : X.mg = mg := by rw [← hX]; rfl
  have X6 : X.w = w := by rw [← hX]; rfl
  have v0 : PE X (.Name "self" q1) (tVar 0) := pe_var (by rw [X4]; rfl) (.inl (by rw [X3]; exact l0))
  have v0' : PE X (.Name "self" r1) (tVar 0) := pe_var (by rw [X4]; rfl) (.inl (by rw [X3]; exact l0))
  have v1 : PE X (.Name f1 q3) (tVar 1) := pe_var (by rw [X4]; rfl) (.inl (by rw [X3]; exact l1)) d1 e1
  have v2 : PE X (.Name f2 r3) (tVar 2) := pe_var (by rw [X4]; rfl) (.inl (by rw [X3]; exact l2)) d2 e2
  have w1 : PE X (.Name f1 p5) (tVar 1) := pe_var (by rw [X4]; rfl) (.inl (by rw [X3]; exact l1)) d1 e1
  have w2 : PE X (.Name f2 p6) (tVar 2) := pe_var (by rw [X4]; rfl) (.inl (by rw [X3]; exact l2)) d2 e2
  have rest := pss_cons (ps_ost (f := f1) (p' := q2) (pos := q4) v0 v1) (pss_cons (ps_ost (f := f2) (p' := r2) (pos := r4) v0' v2) (pss_nil (X := X)))
  rw [← X3, ← X1, ← X6]
  have hs0 : (startF [("self" : Str), f1, f2, "__class__"] [V.ref a, y1, y2] [none])[0]? = some (some (V.ref a)) := rfl
  refine PySem.ks_wpAt_execs_cons (PySem.ks_wpAt_mono (super_first (C := C) (a := a) (by rw [X1, X2]; exact F) (by rw [X2]; exact T) (by rw [X3]; exact S.ks) (by rw [X3]; exact lc) (by rw [X3]; exact l0) (by rw [X3]) (by rw [X3]) (by rw [X3]; simp) (by rw [X5]; exact hmg) (by rw [X4]; rfl) I hs0 ea (pa_cons w1 (pa_cons w2 pa_nil))
    ⟨y1, rfl, y2, rfl, by simp, rfl⟩ rfl rfl (hev_ok hline rfl) I.quiet rfl) (fun fl s' ⟨e, J⟩ => ?_) (fun _ _ h => h))
  subst e
  refine wpAt_of_wpAny (rest.run [] s' _ H _ J ?_)
  refine ⟨y1, rfl, V.ref a, rfl, a, C, rfl, by rw [X2]; exact T, by rw [X2]; exact n1, .inl ⟨ea, fun dx hd hda => ?_⟩⟩
  have hda' := fun z : a = dx => hda z.symm
  refine ⟨y2, rfl, V.ref a, rfl, a, C, rfl, by rw [X2]; exact T, by rw [X2]; exact n2, .inr ⟨dx, [(f1, y1)], upd_same, by rw [upd_ne hda, upd_same], by simp, ?_⟩⟩
  refine q _ dx hd hda ?_ ?_ fun b hb1 hb2 => ?_
  · rw [upd_ne hda', upd_same]
  · rw [upd_same]; rfl
  · rw [upd_ne hb2, upd_ne hb1, upd_ne hb2]
theorem init_ok1 (lk : K.lookup f = some ⟨oc, od, .func (PySem.W.fnX name qual params [.Expr (superX [.Name f1 p5] p0 p1 p2 p3) p4, asgF f1 q1 q2 q3 q4] scope [(("__class__" : Str), cc)] dV kV doc pm an (.ref c) ct), osl⟩)
    (hcd : PySem.W.codeIn K (.ref c) qual = true) (S : IniS ["self", f1] scope) (F : SupF P K f c cc C) (T : OexC K C) (hmg : mg "super" = none) (hline : (p2.endLine == p3.line) = true) (n1 : PySem.W.findIn K (.ref C) f1 = some none)
    (d1 : (f1 == ("__debug__" : Str)) = false) (e1 : (f1 == ("__classdict__" : Str)) = false) :
    FnOk P w K mg base CX (k + 1) f (PySem.W.fnX name qual params [.Expr (superX [.Name f1 p5] p0 p1 p2 p3) p4, asgF f1 q1 q2 q3 q4] scope [(("__class__" : Str), cc)] dV kV doc pm an (.ref c) ct) ["self", f1] (spIni C [f1]) := by
  obtain ⟨cl, cld, csl, hcell⟩ := F.cell
  refine fn_ofC lk hcd S.ns ⟨cl, cld, csl, _, hcell⟩ (fun vs H Q E ⟨a, ws, e, hl, _⟩ => by rw [e]; simp [hl]) fun A outer s H vs Q E s1 hr ⟨a, ws, ev, hl, ea, q⟩ I => ?_
  subst ev
  obtain ⟨y1, rfl⟩ : ∃ y1, ws = [y1] := by
    match ws, hl with
    | [y1], _ => exact ⟨y1, rfl⟩
  have l0 := S.ns.par "self" (by simp)
  have l1 := S.ns.par f1 (by simp)
  have lc := S.ns.frk "__class__" (by simp)
  generalize hX : ncx CX P w K mg base ([("self" : Str), f1] ++ [("__class__" : Str)]) (nfC name qual params [.Expr (superX [.Name f1 p5] p0 p1 p2 p3) p4, asgF f1 q1 q2 q3 q4] scope cc c) f A outer s H E = X at I hr ⊢
  have X1 : X.prog = P := by rw [← hX]; rfl
  have X2 : X.K = K := by rw [← hX]; rfl
  have X3 : X.env = envF (nfC name qual params [.Expr (superX [.Name f1 p5] p0 p1 p2 p3) p4, asgF f1 q1 q2 q3 q4] scope cc c) f s.heap.objs.size := by rw [← hX]; rfl
  have X4 : X.N = [("self" : Str), f1, "__class__"] := by rw [← hX]; rfl
  have X5 : X.mg = mg := by rw [← hX]; rfl
  have X6 : X.w = w := by rw [← hX]; rfl
  have v0 : PE X (.Name "self" q1) (tVar 0) := pe_var (by rw [X4]; rfl) (.inl (by rw [X3]; exact l0))
  have v1 : PE X (.Name f1 q3) (tVar 1) := pe_var (by rw [X4]; rfl) (.inl (by rw [X3]; exact l1)) d1 e1
  have w1 : PE X (.Name f1 p5) (tVar 1) := pe_var (by rw [X4]; rfl) (.inl (by rw [X3]; exact l1)) d1 e1
  have rest := pss_cons (ps_ost (f := f1) (p' := q2) (pos := q4) v0 v1) (pss_nil (X := X))
  rw [← X3, ← X1, ← X6]
  have hs0 : (startF [("self" : Str), f1, "__class__"] [V.ref a, y1] [none])[0]? = some (some (V.ref a)) := rfl
  refine PySem.ks_wpAt_execs_cons (PySem.ks_wpAt_mono (super_first (C := C) (a := a) (by rw [X1, X2]; exact F) (by rw [X2]; exact T) (by rw [X3]; exact S.ks) (by rw [X3]; exact lc) (by rw [X3]; exact l0) (by rw [X3]) (by rw [X3]) (by rw [X3]; simp) (by rw [X5]; exact hmg) (by rw [X4]; rfl) I hs0 ea (pa_cons w1 pa_nil)
    ⟨y1, rfl, by simp, rfl⟩ rfl rfl (hev_ok hline rfl) I.quiet rfl) (fun fl s' ⟨e, J⟩ => ?_) (fun _ _ h => h))
  subst e
  refine wpAt_of_wpAny (rest.run [] s' _ H _ J ?_)
  refine ⟨y1, rfl, V.ref a, rfl, a, C, rfl, by rw [X2]; exact T, by rw [X2]; exact n1, .inl ⟨ea, fun dx hd hda => ?_⟩⟩
  have hda' := fun z : a = dx => hda z.symm
  refine q _ dx hd hda ?_ ?_ fun b hb1 hb2 => ?_
  · rw [upd_same]
  · rw [upd_ne hda, upd_same]; rfl
  · rw [upd_ne hb1, upd_ne hb2]
end
end Y

/-! X4: several except clauses, named or not -/
namespace Y
open PySem PySem.Spec PyProof.Rows L2
/-- the ends of a suite whose name goes -/
def endA (D : Ends) : Option Nat → Ends
  | none => D
  | some i => { nx := fun σ H => D.nx (σ.set i none) H, rt := D.rt, bk := fun σ H => D.bk (σ.set i none) H, ct := fun σ H => D.ct (σ.set i none) H }
def putA (a : Addr) (σ : L2.St) : Option Nat → L2.St
  | none => σ
  | some i => σ.set i (some (.ref a))
abbrev HdT := Value × Option Nat × (Addr → Value → Option Addr → TS)
def wAny (K : PySem.W.Frag) (Wout : WX) (D : Ends) : List HdT → WX
  | [] => Wout
  | (c, oi, ts) :: r => fun cls d σ H => ∃ b, PySem.W.exmOne K cls c = some b ∧ (b = true → ∀ a, H a = none → ts a cls d (endA D oi) (putA a σ oi) H) ∧ (b = false → wAny K Wout D r cls d σ H)
inductive HdsA (X : Cx) : List ExceptHandler → List HdT → Prop
  | nil : HdsA X [] []
  | cons {x : Str} {on : Option Str} {c : Value} {oi : Option Nat} {ts : Addr → Value → Option Addr → TS} {b₀ : Stmt} {suite : List Stmt} {np pos' : Pos} {hds : List ExceptHandler} {l : List HdT} (hc : Names X x c)
      (hn : (on = none ∧ oi = none) ∨ ∃ n i, on = some n ∧ oi = some i ∧ X.N[i]? = some n ∧ X.env.kindOf n = some .local)
      (hsu : ∀ (a : Addr) (oe : Obj) (cls : Value) (d : Option Addr) (pn : List (Addr × Obj)), Zc cls d oe → (∃ vs, oe.data = .fields vs) → PSs (X.suite a ((a, oe) :: pn)) (b₀ :: suite) (ts a cls d)) (r : HdsA X hds l) :
      HdsA X (.ExceptHandler (some (.Name x np)) on (b₀ :: suite) pos' :: hds) ((c, oi, ts) :: l)
section
variable {X : Cx} {body : List Stmt} {h₀ : ExceptHandler} {hds : List ExceptHandler} {l : List HdT} {pos : Pos} {tb : WX → TS} {Wout : WX}
theorem ps_try_any (hs : X.stack = X.env :: X.outer) (hf : X.env.frame = some X.env.locals) (hN : X.N.Nodup) (tk : Takes X Wout)
    (hb : ∀ (W : WX) (pn : List (Addr × Obj)) (xe : Value → Shared → Prop), Takes (X.tr pn xe) W → PassesOwn (model X.prog X.w) X.A X.env xe → PSs (X.tr pn xe) body (tb W))
    (hh : HdsA X (h₀ :: hds) l) : PS X (.Try body (h₀ :: hds) [] [] pos) (fun D σ H => tb (wAny X.K Wout D l) D σ H) := by
  refine ⟨fun pins s σ H D I h => ?_⟩
  have ok := I.ok
  have hfr : X.A.frames = some (X.env :: X.outer) := by rw [ok.frames, hs]
  refine wpAny_Try_except ?_
  have body := (hb (wAny X.K Wout D l) (X.pn ++ pins) (fun e s₁ => wpAny (model X.prog X.w) X.A (noteFrame e X.env) (fun _ s₂ => wpAny (model X.prog X.w) X.A (setFlight e none) (fun _ s₃ =>
    wpAny (model X.prog X.w) X.A (handleBy e X.env (h₀ :: hds)) (SP X pins D) X.xe s₃) X.xe s₂) X.xe s₁) (fun u s' xx => ?_) PassesOwn.looking).run [] s σ H D (I.toTry _) h
  · refine wpAny_mono body (fun f s1 hsp => ?_) (fun e s1 he => he)
    cases f with
    | next =>
      obtain ⟨σ', H', J', q⟩ := hsp
      exact wpAny_execs_nil ⟨σ', H', J'.ofTry ok, q⟩
    | brk =>
      obtain ⟨σ', H', J', q⟩ := hsp
      exact ⟨σ', H', J'.ofTry ok, q⟩
    | cont =>
      obtain ⟨σ', H', J', q⟩ := hsp
      exact ⟨σ', H', J'.ofTry ok, q⟩
    | ret u =>
      obtain ⟨v, σ', H', J', r, q⟩ := hsp
      exact ⟨v, σ', H', J'.ofTry ok, r, q⟩
  -- what is caught
  obtain ⟨a, B, sI, pins', σ', H', cls, d, rfl, J', nb, up, sky, na, os, ag, w⟩ := xx
  have J : Inv X pins σ' H' sI := J'.ofTry ok
  have sky' : Sky B (X.env :: X.outer) a (Zc cls d) X.env.locals s'.heap := by rw [← hs]; exact sky
  refine Sky.land Zc.steady hfr hf sky' fun h3 fl3 up3 => ?_
  have J3 : Inv X pins σ' H' { s' with heap := h3 } := J.landed nb fl3.1 (up.trans up3) os ag
  obtain ⟨oe3, vs3, he3, hz3, hd3⟩ := fl3.there
  have nfr : a ∉ frs (X.env :: X.outer) := fun hm => by
    obtain ⟨_, o', e', hnf⟩ := fl3.2.2.1.mem hm
    rw [he3] at e'
    cases e'
    exact hnf _ hd3
  have nL : a ≠ X.env.locals := fun z => nfr (List.mem_filterMap.mpr ⟨X.env, List.mem_cons_self, by rw [hf, z]⟩)
  have nF : a ∉ X.fs := fun hm => by
    obtain ⟨e, he, q⟩ := List.mem_filterMap.mp hm
    exact nfr (List.mem_filterMap.mpr ⟨e, List.mem_cons_of_mem _ he, q⟩)
  have S3 := J3.suite he3 hd3 na nL nF
  have LT : PySem.W.Looks (model X.prog X.w) h3 (typeOf (.ref a)) cls := fun A Q E s k q => wpAny_typeOf_ref (k _ _ he3) (by rw [hz3.1]; exact q)
  suffices go : ∀ {hds' : List ExceptHandler} {l' : List HdT}, HdsA X hds' l' → wAny X.K Wout D l' cls d σ' H' → wpAny (model X.prog X.w) X.A (handleBy (.ref a) X.env hds') (SP X pins D) X.xe { s' with heap := h3 } from go hh w
  intro hds' l' hk
  induction hk with
  | nil =>
    intro w
    refine wpAny_handleBy_nil ?_
    obtain ⟨k1, k2, k3, oe, vs, T, oT, ts', he, hz, hd, h1, hr⟩ := id fl3
    unfold PySem.passOn
    refine wpAny_bind (wpAny_field he hd h1 ?_)
    rw [if_neg (show ¬ ((Value.ref T == Value.none) = true) from by simp)]
    have fin : wpAny (model X.prog X.w) X.A (setFlight (.ref a) X.env.frame) (fun _ s4 => wpAny (model X.prog X.w) X.A (throw (.ref a) : Sem Flow) (SP X pins D) X.xe s4) X.xe { s' with heap := h3 } := by
      rw [hf]
      refine HandSPX.setFlight_upZ fl3 fun h4 hh4 up4 => wpAny_throw (tk _ _ ?_)
      exact ⟨a, B, sI, pins, σ', H', cls, d, rfl, J, nb, (up.trans up3).trans up4, .inr (.inr (by rw [hs]; exact hh4)), na, os, ag, w⟩
    first
      | exact wpAny_bind (wpAny_pure (wpAny_bind fin))
      | exact wpAny_bind fin
  | @cons x on c oi ts b₀ suite np pos' hds2 l2 hc hn hsu r ih =>
    intro w
    obtain ⟨b, hb1, hyes, hno⟩ := w
    refine wpAny_handleBy_cons (codeAny_handlers_test ?_) (by intro q; cases q)
    have LM := PySem.W.exm_one (M := model X.prog X.w) (J3.kIn) LT hb1
    have test : ∀ {Q : Value → Shared → Prop} {E : Value → Shared → Prop}, Q c { s' with heap := h3 } → wpAny (model X.prog X.w) (X.A.mark (some (.ref a))) (eval (.Name x np) X.env) Q E { s' with heap := h3 } := fun {Q E} q => by
      obtain ⟨hg, hdbg, hm | ⟨hm, hv, hnn⟩⟩ := hc
      · exact ld_glob (X := X.suite a ((a, oe3) :: (X.pn ++ pins))) S3 hg hm q hdbg
      · exact ld_blt (X := X.suite a ((a, oe3) :: (X.pn ++ pins))) S3 hg hm hv q hnn hdbg
    refine test (LM.here ?_)
    cases b with
    | false => exact ih (hno rfl)
    | true =>
      have lands : ∀ {R : Result → Shared → Prop}, True := trivial
      rcases hn with ⟨rfl, rfl⟩ | ⟨n, i, rfl, rfl, hi, hln⟩
      · refine codeAny_handlers_suite ?_
        refine HandSPX.lands_againZ fl3 fun h4 fl4 up4 => ?_
        have J4 : Inv X pins σ' H' { s' with heap := h4 } := J.landed nb fl4.1 ((up.trans up3).trans up4) os ag
        obtain ⟨oe4, vs4, he4, hz4, hd4⟩ := fl4.there
        have S4 := J4.suite he4 hd4 na nL nF
        refine wpAny_mono ((hsu a oe4 cls d (X.pn ++ pins) hz4 ⟨_, hd4⟩).run [] _ _ H' _ S4 (hyes rfl a na)) (fun f s6 hsp => ?_) (fun _ _ z => False.elim z)
        cases f with
        | next =>
          obtain ⟨σ6, H6, S6, q6⟩ := hsp
          exact ⟨_, _, S6.unsuite ok, q6⟩
        | brk =>
          obtain ⟨σ6, H6, S6, q6⟩ := hsp
          exact ⟨_, _, S6.unsuite ok, q6⟩
        | cont =>
          obtain ⟨σ6, H6, S6, q6⟩ := hsp
          exact ⟨_, _, S6.unsuite ok, q6⟩
        | ret u =>
          obtain ⟨v6, σ6, H6, S6, r6, q6⟩ := hsp
          exact ⟨_, _, _, S6.unsuite ok, r6, q6⟩
      · refine codeAny_handlers_suite_as ?_
        refine HandSPX.lands_againZ fl3 fun h4 fl4 up4 => ?_
        have J4 : Inv X pins σ' H' { s' with heap := h4 } := J.landed nb fl4.1 ((up.trans up3).trans up4) os ag
        obtain ⟨oe4, vs4, he4, hz4, hd4⟩ := fl4.there
        have S4 := J4.suite he4 hd4 na nL nF
        refine store_ok (X := X.suite a ((a, oe4) :: (X.pn ++ pins))) (v := .ref a) S4 hN hi (.inl hln) rfl (fun s5 S5 => ?_) (.inr hln)
        refine wpAny_mono ((hsu a oe4 cls d (X.pn ++ pins) hz4 ⟨_, hd4⟩).run [] s5 _ H' _ S5 (hyes rfl a na)) (fun f s6 hsp => ?_) (fun _ _ z => False.elim z)
        have end_ : ∀ {σ6 : L2.St} {H6 : Hp} {Q : Shared → Prop}, Inv (X.suite a ((a, oe4) :: (X.pn ++ pins))) [] σ6 H6 s6 → (∀ s7, Inv X pins (σ6.set i none) H6 s7 → Q s7) →
            wpAny (model X.prog X.w) X.A (do bindName X.env n .none; unbindBehindTheSuite X.env n pos') (fun _ s7 => Q s7) X.xe s6 := fun {σ6 H6 Q} S6 hq => gone_ok (S6.unsuite ok) hN hi hln hq
        cases f with
        | next =>
          obtain ⟨σ6, H6, S6, q6⟩ := hsp
          exact end_ S6 fun s7 J7 => ⟨_, _, J7, q6⟩
        | brk =>
          obtain ⟨σ6, H6, S6, q6⟩ := hsp
          exact end_ S6 fun s7 J7 => ⟨_, _, J7, q6⟩
        | cont =>
          obtain ⟨σ6, H6, S6, q6⟩ := hsp
          exact end_ S6 fun s7 J7 => ⟨_, _, J7, q6⟩
        | ret u =>
          obtain ⟨v6, σ6, H6, S6, r6, q6⟩ := hsp
          exact end_ S6 fun s7 J7 => ⟨_, _, _, J7, r6, q6⟩
end
end Y

/-! X5: raise of own exceptions with flat fields, as the evaluator has it -/
namespace Y
open PySem PySem.Spec PyProof.Rows L2
def fltV : PV → Option V
  | .non => some .non
  | .bl b => some (.bl b)
  | .int i => some (.int i)
  | .str x => some (.str x)
  | _ => none
section
variable {K : KF} {B : Addr → Prop} {ρ : List Addr} {H : Hp}
theorem flt_rel : ∀ {p : PV} {v w : V}, fltV p = some v → Rel K B ρ H p w → w = v
  | .non, v, w, e, r => by cases e; simpa only [Rel] using r
  | .bl b, v, w, e, r => by cases e; simpa only [Rel] using r
  | .int i, v, w, e, r => by cases e; simpa only [Rel] using r
  | .str x, v, w, e, r => by cases e; simpa only [Rel] using r
  | .tup _, _, _, e, _ => by cases e
  | .lst _, _, _, e, _ => by cases e
  | .dct _ _, _, _, e, _ => by cases e
  | .scr _, _, _, e, _ => by cases e
  | .ref _, _, _, e, _ => by cases e
theorem flt_mk {p : PV} {v : V} (e : fltV p = some v) : Rel K B ρ H p v := by
  cases p <;> simp only [fltV] at e <;> first | contradiction | (cases e; simp only [Rel])
theorem flts_rel : ∀ {ps : List PV} {vs ws : List V}, ps.mapM fltV = some vs → Rels K B ρ H ps ws → ws = vs
  | [], vs, ws, e, r => by
    simp at e
    rw [r.nil_inv, e]
  | p :: ps, vs, ws, e, r => by
    obtain ⟨w, ws', rfl, a, b⟩ := r.cons_inv
    rw [List.mapM_cons] at e
    cases h1 : fltV p with
    | none => rw [h1] at e; simp at e
    | some v =>
      rw [h1] at e
      cases h2 : ps.mapM fltV with
      | none => rw [h2] at e; simp at e
      | some vs' =>
        rw [h2] at e
        simp at e
        rw [← e, flt_rel h1 a, flts_rel h2 b]
end
/-- what is wanted of an exception: T tells of each class its place and its fields -/
def eoX (T : List (Addr × List Str)) : XK → XW := fun E c fs _ H => ∃ C ns vs, T[c]? = some (C, ns) ∧ fs.mapM fltV = some vs ∧ vs.length = ns.length ∧ ∀ d, H d = none → E (.ref C) (some d) (upd H d (.xd (ns.zip vs).reverse))
theorem eoX_ok {T : List (Addr × List Str)} : EoOk (eoX T) := fun _ _ _ _ _ _ _ h => h
theorem flt_some {p : PV} (h : flt p = true) : ∃ v, fltV p = some v := by
  cases p <;> first | exact ⟨_, rfl⟩ | (simp [flt] at h)
theorem all_flt : ∀ {ps : List PV}, ps.all flt = true → ∃ vs, ps.mapM fltV = some vs
  | [], _ => ⟨[], rfl⟩
  | p :: ps, h => by
    rw [List.all_cons, Bool.and_eq_true] at h
    obtain ⟨v, hv⟩ := flt_some h.1
    obtain ⟨vs, hvs⟩ := all_flt h.2
    exact ⟨v :: vs, by rw [List.mapM_cons, hv, hvs]; rfl⟩
section
variable {X : Cx} {xw : L2.St → XW} {xc : XW} {J : L2.St → Prop} {T : List (Addr × List Str)} {E0 : L2.St → XK}
theorem s_rais {c k : Nat} {C fI : Addr} {ns : List Str} {fd : FuncData} {ps : List Str} {x : Str} {p pos pos' : Pos} {e : Expr} {es : List Expr} {ms : Ev → M (List PV)} (hc : X.calm = true) (tk : Takes X (fun cls d σ H => E0 σ cls d H)) (hx : XOk (fun σ => eoX T (E0 σ)) xc J)
    (ht : T[c]? = some (C, ns)) (hn : ns.length ≤ 1000) (O : OexC X.K C) (iC : PySem.W.findIn X.K (.ref C) "__init__" = some (some (.ref fI))) (tI : PySem.W.typeIn X.K (.ref fI) = some (.type "function"))
    (F1 : FnOk X.prog X.w X.K X.mg X.base (L2.CX X.prog X.w) k fI fd ps (spIni C ns)) (hr : Room (k + 1) X.A) (hb : Binds X.K fd ps []) (hg : Gl X x) (hm : X.mg x = some (.ref C)) (hdb : (x == ("__debug__" : Str)) = false)
    (ha : PA X (e :: es) (dnL (kf X) (fun σ => eoX T (E0 σ)) ms)) (he : starEach (e :: es) X.env = (false, eval e X.env) :: starEach es X.env) (hpl : (backTo pos (starEach es X.env)).any (·.1) = false) :
    PS X (.Raise (some (.Call (.Name x p) (e :: es) [] pos)) none pos') (dnS (kf X) xc J (raiM c ns.length ms)) := by
  have pk := pmk_oex (X := X) (p := p) (dvs := []) O iC tI F1 hr hb .nil (fun _ _ _ _ _ _ _ h => by
    obtain ⟨_, _, _, _, _, _, _, _, _, _, _, _, z⟩ := h
    exact z.elim) hg hm ha hdb he hpl
  refine PS.mono (ps_raise (W := fun cls d σ H => E0 σ cls d H) hc tk pk) fun D σ H ⟨B, ρ, h, env, s, er, j, q⟩ => ?_
  have q : Post (kf X) B (eoX T (E0 σ)) ρ H ((ms env >>= fun xs => (fun h => if xs.all flt && decide (xs.length = ns.length) then R.ex c xs h else R.err : M Fl)) h) _ := Post.xm q (hx σ j)
  refine dnL_seq s er q fun xs h1 ρ1 H1 vs e1 s1 _ rs q => ?_
  by_cases cc : (xs.all flt && decide (xs.length = ns.length)) = true
  · rw [if_pos cc] at q
    obtain ⟨C', ns', vs', t', fv, hl, q⟩ := q ρ1 H1 (Ext.refl _ _) s1
    rw [ht] at t'
    cases t'
    have ev := flts_rel fv rs
    subst ev
    refine ⟨by omega, fun a hna => ?_⟩
    refine ⟨a, vs, by simp, by simpa using hl, upd_same, fun H2 d hd hda h2a h2d ho => ⟨rfl, d, _, h2a, h2d, ?_, ?_⟩⟩
    · rw [upd_ne hda] at hd
      exact hd
    · rw [upd_ne hda] at hd
      have eH : upd (del H2 a) d (.xd (ns.zip vs).reverse) = upd H1 d (.xd (ns.zip vs).reverse) := by
        funext b
        by_cases hbd : b = d
        · rw [hbd, upd_same, upd_same]
        · rw [upd_ne hbd, upd_ne hbd]
          by_cases hba : b = a
          · rw [hba, del_same, hna]
          · rw [del_ne hba, ho b hba hbd, upd_ne hba]
      rw [eH]
      exact q d hd
  · rw [if_neg cc] at q
    exact q.elim
end
end Y

/-! X6: except clauses, as the evaluator has them -/
namespace Y
open PySem PySem.Spec PyProof.Rows L2
/-- what stands at the entry of a suite -/
structure InSu (T : List (Addr × List Str)) (hd : Hd) (fs : List PV) (C : Addr) (ns : List Str) (vs : List V) (a : Addr) (cls : Value) (dd : Addr) (d : Option Addr) (σ : L2.St) (H : Hp) : Prop where
  cls : cls = .ref C
  d : d = some dd
  xd : H dd = some (.xd (ns.zip vs).reverse)
  fv : fs.mapM fltV = some vs
  len : vs.length = ns.length
  nm : ∀ i, hd.nm = some i → σ[i]? = some (some (.ref a))
def tsH (K : KF) (T : List (Addr × List Str)) (hd : Hd) : Addr → Value → Option Addr → TS := fun a cls d D σ H =>
  ∃ c C ns vs dd fs p B ρ h, hd.cs.lookup c = some ns.length ∧ T[c]? = some (C, ns) ∧ InSu T hd fs C ns vs a cls dd d σ H ∧ hbV fs hd.bd = some p ∧ SR K B ρ h H ∧ ∀ ρ' H' v, Ext ρ H ρ' H' → SR K B ρ' h H' → Rel K B ρ' H' p v → D.rt v H'
/-- what is known of a clause's class -/
structure HdK (K : PySem.W.Frag) (T : List (Addr × List Str)) (cs : List (Nat × Nat)) (Ch : Value) : Prop where
  yes : ∀ c n, cs.lookup c = some n → ∃ C ns, T[c]? = some (C, ns) ∧ ns.length = n ∧ PySem.W.exmOne K (.ref C) Ch = some true
  no : ∀ c, cs.lookup c = none → ∀ C ns, T[c]? = some (C, ns) → PySem.W.exmOne K (.ref C) Ch = some false
section
variable {X : Cx} {xc : XW} {J : L2.St → Prop} {T : List (Addr × List Str)} {E0 : L2.St → XK}
inductive HdsK (X : Cx) (T : List (Addr × List Str)) : List Hd → List HdT → Prop
  | nil : HdsK X T [] []
  | cons {hd : Hd} {Ch : Value} {r : List Hd} {l : List HdT} (k : HdK X.K T hd.cs Ch) (hi : ∀ i, hd.nm = some i → i < X.N.length) (h : HdsK X T r l) : HdsK X T (hd :: r) ((Ch, hd.nm, tsH (kf X) T hd) :: l)
theorem flts_len : ∀ {ps : List PV} {vs : List V}, ps.mapM fltV = some vs → ps.length = vs.length
  | [], vs, e => by simp at e; rw [e]; rfl
  | p :: ps, vs, e => by
    rw [List.mapM_cons] at e
    cases h1 : fltV p with
    | none => rw [h1] at e; simp at e
    | some v =>
      rw [h1] at e
      cases h2 : ps.mapM fltV with
      | none => rw [h2] at e; simp at e
      | some vs' =>
        rw [h2] at e
        simp at e
        rw [← e, List.length_cons, List.length_cons, flts_len h2]
theorem s_tryX {h₀ : ExceptHandler} {hds : List ExceptHandler} {l : List HdT} {body : List Stmt} {pos : Pos} {m : Ev → M Fl} {hs : List Hd} (hst : X.stack = X.env :: X.outer) (hf : X.env.frame = some X.env.locals) (hN : X.N.Nodup) (tk : Takes X (fun cls d σ H => E0 σ cls d H))
    (hx : XOk (fun σ => eoX T (E0 σ)) xc J) (hk : HdsK X T hs l) (ha : HdsA X (h₀ :: hds) l)
    (hb : ∀ (σ0 : L2.St) (E1 : L2.St → XK) (pn : List (Addr × Obj)) (xe : Value → Shared → Prop), Takes (X.tr pn xe) (fun cls d σ H => E1 σ cls d H) → PassesOwn (model X.prog X.w) X.A X.env xe → PSs (X.tr pn xe) body (dnS (kf X) (eoX T (E1 σ0)) (fun τ => τ = σ0) m)) :
    PS X (.Try body (h₀ :: hds) [] [] pos) (dnS (kf X) xc J (tryM m hs)) := by
  refine ⟨fun pins s σ H D I ⟨B, ρ, h, env, s0, er, j, q⟩ => ?_⟩
  refine (ps_try_any (Wout := fun cls d σ H => E0 σ cls d H) (tb := fun W D σ H => dnS (kf X) (eoX T (fun cls d H => W cls d σ H)) (fun τ => τ = σ) m D σ H) (pos := pos) hst hf hN tk (fun W pn xe tk po => ⟨fun pins s σ H D I h => (hb σ (fun τ cls d H => W cls d τ H) pn xe tk po).run pins s σ H D I h⟩) ha).run pins s σ H D I ?_
  refine ⟨B, ρ, h, env, s0, er, rfl, ?_⟩
  have q : Post (kf X) B xc ρ H (match m env h with | .ex c fs h1 => hsM hs c fs h1 | r => r : R Fl) _ := q
  cases e : m env h with
  | err => rw [e] at q; exact q.elim
  | ok f h1 =>
    rw [e] at q
    intro ρ' H' e' s'
    have q := q ρ' H' e' s'
    cases f with
    | nx env' => exact fun τ er' ej => q τ er' (ej ▸ j)
    | rt v => exact q
    | bk env' => exact fun τ er' ej => q τ er' (ej ▸ j)
    | ct env' => exact fun τ er' ej => q τ er' (ej ▸ j)
  | ex c fs h1 =>
    rw [e] at q
    intro ρ' H' e' s'
    have q : Post (kf X) B xc ρ' H' (hsM hs c fs h1) _ := Post.base e' q
    show eoX T (fun cls d H => wAny X.K (fun cls d σ H => E0 σ cls d H) D l cls d σ H) c fs ρ' H'
    suffices go : ∀ {hs : List Hd} {l : List HdT}, HdsK X T hs l → Post (kf X) B xc ρ' H' (hsM hs c fs h1) (fun f _ ρ' H' => dnF (kf X) J B D f ρ' H') →
        eoX T (fun cls d H => wAny X.K (fun cls d σ H => E0 σ cls d H) D l cls d σ H) c fs ρ' H' from go hk q
    clear q hk e
    intro hs l hk
    induction hk with
    | nil =>
      intro q
      exact hx σ j c fs ρ' H' (q ρ' H' (Ext.refl _ _) s')
    | @cons hd Ch r l k hi hr ih =>
      intro q
      unfold hsM at q
      cases hl : hd.cs.lookup c with
      | none =>
        rw [hl] at q
        obtain ⟨C, ns, vs, t, fv, hlen, w⟩ := ih q
        exact ⟨C, ns, vs, t, fv, hlen, fun d hd0 => ⟨false, k.no c hl C ns t, fun z => (by cases z), fun _ => w d hd0⟩⟩
      | some n =>
        rw [hl] at q
        obtain ⟨C, ns, t, hn, ex⟩ := k.yes c n hl
        have q : Post (kf X) B xc ρ' H' ((if fs.all flt && decide (fs.length = n) then lift ((hbV fs hd.bd).map Fl.rt) else M.err : M Fl) h1) _ := q
        by_cases cc : (fs.all flt && decide (fs.length = n)) = true
        · rw [if_pos cc] at q
          rw [Bool.and_eq_true, decide_eq_true_eq] at cc
          obtain ⟨cc, hfn⟩ := cc
          obtain ⟨vs, fv⟩ := all_flt cc
          have hlen : vs.length = ns.length := by rw [← flts_len fv, hfn, hn]
          cases ep : hbV fs hd.bd with
          | none => rw [ep] at q; exact q.elim
          | some p =>
            rw [ep] at q
            refine ⟨C, ns, vs, t, fv, hlen, fun d hd0 => ⟨true, ex, fun _ a ha0 => ?_, fun z => by cases z⟩⟩
            refine ⟨c, C, ns, vs, d, fs, p, B, ρ', h1, by rw [hl, hn], t, ⟨rfl, rfl, upd_same, fv, hlen, fun i e => ?_⟩, ep, s'.new hd0, fun ρ2 H2 v e2 s2 r2 => ?_⟩
            · rw [e]
              have : i < σ.length := by rw [I.len]; exact hi i e
              exact List.getElem?_set_self this
            · have z := q ρ2 H2 ((Ext.new hd0).trans e2) s2 v r2
              cases hd.nm with
              | none => exact z
              | some i => exact z
        · rw [if_neg cc] at q
          exact q.elim
end
end Y

/-! X7: the suites of except clauses -/
namespace Y
open PySem PySem.Spec PyProof.Rows L2
def ckC : PV → Expr → Bool
  | .int i, .Constant (.int j) _ _ => decide (i = j)
  | .str x, .Constant (.str y) _ _ => decide (x = y)
  | .bl b, .Constant (.bool c) _ _ => decide (b = c)
  | .non, .Constant .none _ _ => true
  | _, _ => false
def ckHe (n : Str) (ns : List Str) : HE → Expr → Bool
  | .cst v, e => ckC v e
  | .fld j, .Attribute (.Name m _) f _ => decide (m = n) && decide (ns[j]? = some f)
  | _, _ => false
def ckHes (n : Str) (ns : List Str) : List HE → List Expr → Bool
  | [], [] => true
  | h :: hs, e :: es => ckHe n ns h e && noStar e && ckHes n ns hs es
  | _, _ => false
def hV (vs : List V) : HE → Option V
  | .cst v => fltV v
  | .fld j => vs[j]?
section
variable {K : KF} {B : Addr → Prop} {ρ : List Addr} {H : Hp}
theorem flts_get : ∀ {fs : List PV} {vs : List V} {j : Nat} {p : PV}, fs.mapM fltV = some vs → fs[j]? = some p → ∃ v, vs[j]? = some v ∧ fltV p = some v
  | [], vs, j, p, e, h => by simp at h
  | q :: fs, vs, j, p, e, h => by
    rw [List.mapM_cons] at e
    cases h1 : fltV q with
    | none => rw [h1] at e; simp at e
    | some v =>
      rw [h1] at e
      cases h2 : fs.mapM fltV with
      | none => rw [h2] at e; simp at e
      | some vs' =>
        rw [h2] at e
        simp at e
        subst e
        cases j with
        | zero =>
          simp at h
          subst h
          exact ⟨v, rfl, h1⟩
        | succ j => exact flts_get (j := j) h2 (by simpa using h)
theorem he_val {fs : List PV} {vs : List V} (fv : fs.mapM fltV = some vs) {h : HE} {p : PV} (e : heV fs h = some p) : ∃ w, hV vs h = some w ∧ fltV p = some w := by
  cases h with
  | cst v =>
    simp only [heV] at e
    split at e
    · rename_i c
      cases e
      obtain ⟨w, hw⟩ := flt_some c
      exact ⟨w, hw, hw⟩
    · cases e
  | fld j => exact flts_get fv e
theorem hes_val {fs : List PV} {vs : List V} (fv : fs.mapM fltV = some vs) : ∀ {hs : List HE} {ps : List PV}, hs.mapM (heV fs) = some ps → ∃ ws, hs.mapM (hV vs) = some ws ∧ ∀ B ρ H, Rels K B ρ H ps ws
  | [], ps, e => by
    simp at e
    subst e
    exact ⟨[], rfl, fun _ _ _ => Rels.nil⟩
  | h :: hs, ps, e => by
    rw [List.mapM_cons] at e
    cases h1 : heV fs h with
    | none => rw [h1] at e; simp at e
    | some p =>
      rw [h1] at e
      cases h2 : hs.mapM (heV fs) with
      | none => rw [h2] at e; simp at e
      | some ps' =>
        rw [h2] at e
        simp at e
        subst e
        obtain ⟨w, a, b⟩ := he_val fv h1
        obtain ⟨ws, a2, b2⟩ := hes_val fv h2
        exact ⟨w :: ws, by rw [List.mapM_cons, a, a2]; rfl, fun B ρ H => Rels.cons (flt_mk b) (b2 B ρ H)⟩
end
section
variable {X : Cx} {T : List (Addr × List Str)}
theorem pe_cstV {v : PV} {e : Expr} (h : ckC v e = true) : ∃ w, fltV v = some w ∧ PE X e (tC w) := by
  unfold ckC at h
  split at h <;> try contradiction
  · cases of_decide_eq_true h; exact ⟨_, rfl, pe_int⟩
  · cases of_decide_eq_true h; exact ⟨_, rfl, pe_str⟩
  · cases of_decide_eq_true h; exact ⟨_, rfl, pe_bl⟩
  · exact ⟨_, rfl, pe_non⟩
/-- what a raised class must have for its fields to be read -/
structure FldK (K : PySem.W.Frag) (C : Addr) (ns : List Str) : Prop where
  xf : XfC K C
  no : ∀ f ∈ ns, PySem.W.findIn K (.ref C) f = some none
  nd : ns.Nodup
/-- the state in a suite -/
def Good (i : Nat) (a : Addr) (cls : Value) (d : Option Addr) (C : Addr) (ns : List Str) (vs : List V) (σ : L2.St) (H : Hp) : Prop :=
  σ[i]? = some (some (.ref a)) ∧ cls = .ref C ∧ ∃ dd, d = some dd ∧ H dd = some (.xd (ns.zip vs).reverse)
theorem zip_lookup : ∀ {ns : List Str} {vs : List V} {j : Nat} {f : Str} {v : V}, ns.Nodup → ns[j]? = some f → vs[j]? = some v → (ns.zip vs).reverse.lookup f = some v
  | [], _, _, _, _, _, h, _ => by simp at h
  | _ :: _, [], _, _, _, _, _, h => by simp at h
  | n :: ns, u :: vs, 0, f, v, nd, h1, h2 => by
    simp at h1 h2
    subst h1
    subst h2
    have hn : (ns.zip vs).reverse.lookup n = none := by
      cases e : (ns.zip vs).reverse.lookup n with
      | none => rfl
      | some w =>
        have := List.of_mem_zip (List.mem_reverse.mp (PySem.mem_of_lookup e))
        exact absurd this.1 (List.nodup_cons.mp nd).1
    rw [List.zip_cons_cons, List.reverse_cons, List.lookup_append, hn]
    simp [List.lookup]
  | n :: ns, u :: vs, j + 1, f, v, nd, h1, h2 => by
    have e : (ns.zip vs).reverse.lookup f = some v := zip_lookup (j := j) (List.nodup_cons.mp nd).2 (by simpa using h1) (by simpa using h2)
    rw [List.zip_cons_cons, List.reverse_cons, List.lookup_append, e] <;> rfl
theorem pe_he {a : Addr} {oe : Obj} {cls : Value} {d : Option Addr} {pn : List (Addr × Obj)} {i : Nat} {n : Str} {C : Addr} {ns : List Str} {vs : List V} (F : FldK X.K C ns) (hz : Zc cls d oe) (hf : ∃ vs, oe.data = .fields vs) (hN : X.N[i]? = some n) (hv : Vis X.env.scope n) (d1 : (n == ("__debug__" : Str)) = false) (d2 : (n == ("__classdict__" : Str)) = false) :
    ∀ {h : HE} {e : Expr}, ckHe n ns h e = true → PE (X.suite a ((a, oe) :: pn)) e (fun σ H Q => Good i a cls d C ns vs σ H ∧ ∃ w, hV vs h = some w ∧ Q w H)
  | .cst v, e, h => by
    obtain ⟨w, hw, pe⟩ := pe_cstV (X := X.suite a ((a, oe) :: pn)) h
    exact PE.mono pe fun σ H Q ⟨_, w', hw', q⟩ => by
      rw [show w' = w by rw [show hV vs (.cst v) = fltV v from rfl, hw] at hw'; exact (Option.some.inj hw').symm] at q
      exact q
  | .fld j, e, h => by
    unfold ckHe at h
    split at h <;> try contradiction
    · rename_i j' m p f q z
      cases z
      rw [Bool.and_eq_true, decide_eq_true_eq, decide_eq_true_eq] at h
      obtain ⟨rfl, hj⟩ := h
      exact PE.mono (pe_xf F.xf (F.no f (List.mem_of_getElem? hj)) hz hf (pe_var (X := X.suite a ((a, oe) :: pn)) hN hv d1 d2)) fun σ H Q ⟨⟨hs, hc, dd, hd, hx⟩, w, hw, q⟩ =>
        ⟨V.ref a, hs, rfl, hc, dd, _, w, hd, hx, zip_lookup F.nd hj hw, q⟩
end
end Y

namespace Y
open PySem PySem.Spec PyProof.Rows L2
section
variable {X : Cx} {T : List (Addr × List Str)}
theorem mapM_len {α β : Type} {f : α → Option β} : ∀ {l : List α} {r : List β}, l.mapM f = some r → r.length = l.length
  | [], r, e => by simp at e; rw [e]; rfl
  | x :: l, r, e => by
    rw [List.mapM_cons] at e
    cases h1 : f x with
    | none => rw [h1] at e; simp at e
    | some y =>
      rw [h1] at e
      cases h2 : l.mapM f with
      | none => rw [h2] at e; simp at e
      | some r' =>
        rw [h2] at e
        simp at e
        rw [← e, List.length_cons, List.length_cons, mapM_len h2]
theorem su_none {hd : Hd} {a : Addr} {cls : Value} {d : Option Addr} {suite : List Stmt} {Y' : Cx} (h : hd.cs = []) : PSs Y' suite (tsH (kf X) T hd a cls d) :=
  ⟨fun pins s σ H D I ⟨c, C, ns, vs, dd, fs, p, B, ρ, hh, hl, _⟩ => by
    rw [h] at hl
    cases hl⟩
theorem su_one {hd : Hd} {a : Addr} {cls : Value} {d : Option Addr} {Y' : Cx} {v : PV} {e : Expr} {pos : Pos} (hb : hd.bd = .one v) (h : ckC v e = true) : PSs Y' [.Return (some e) pos] (tsH (kf X) T hd a cls d) := by
  obtain ⟨w, hw, pe⟩ := pe_cstV (X := Y') h
  refine PSs.mono (pss_cons (ps_ret pe) pss_nil) fun D σ H ⟨c, C, ns, vs, dd, fs, p, B, ρ, hh, hl, ht, hin, hp, s, q⟩ => ?_
  rw [hb] at hp
  have hp : (if flt v then some v else none) = some p := hp
  split at hp
  · cases hp
    exact q ρ H w (Ext.refl _ _) s (flt_mk hw)
  · cases hp
theorem pa_hes {a : Addr} {oe : Obj} {cls : Value} {d : Option Addr} {pn : List (Addr × Obj)} {i : Nat} {n : Str} {C : Addr} {ns : List Str} {vs : List V} (F : FldK X.K C ns) (hz : Zc cls d oe) (hf : ∃ vs, oe.data = .fields vs) (hN : X.N[i]? = some n) (hv : Vis X.env.scope n) (d1 : (n == ("__debug__" : Str)) = false) (d2 : (n == ("__classdict__" : Str)) = false) :
    ∀ {hs : List HE} {es : List Expr}, ckHes n ns hs es = true → PA (X.suite a ((a, oe) :: pn)) es (fun σ H Q => Good i a cls d C ns vs σ H ∧ ∃ ws, hs.mapM (hV vs) = some ws ∧ Q ws H)
  | [], [], _ => PA.mono pa_nil fun σ H Q ⟨_, ws, hw, q⟩ => by
    simp at hw
    subst hw
    exact q
  | h :: hs, e :: es, hh => by
    unfold ckHes at hh
    rw [Bool.and_eq_true, Bool.and_eq_true] at hh
    obtain ⟨⟨h1, h2⟩, h3⟩ := hh
    refine PA.mono (pa_cons (pe_he (vs := vs) F hz hf hN hv d1 d2 h1) (pa_hes (vs := vs) F hz hf hN hv d1 d2 h3) (star_one h2)) fun σ H Q ⟨g, ws, hw, q⟩ => ?_
    rw [List.mapM_cons] at hw
    cases e1 : hV vs h with
    | none => rw [e1] at hw; simp at hw
    | some w =>
      rw [e1] at hw
      cases e2 : hs.mapM (hV vs) with
      | none => rw [e2] at hw; simp at hw
      | some ws' =>
        rw [e2] at hw
        simp at hw
        subst hw
        exact ⟨g, w, rfl, g, ws', rfl, q⟩
  | [], _ :: _, h => by simp [ckHes] at h
  | _ :: _, [], h => by simp [ckHes] at h
theorem su_tupF {hd : Hd} {a : Addr} {oe : Obj} {cls : Value} {d : Option Addr} {pn : List (Addr × Obj)} {i c : Nat} {n : Str} {C : Addr} {ns : List Str} {hs : List HE} {es : List Expr} {k : Nat} {p p' : Pos} (hb : hd.bd = .tup hs) (hm : hd.nm = some i) (hc : hd.cs = [(c, ns.length)]) (ht : T[c]? = some (C, ns))
    (F : FldK X.K C ns) (hz : Zc cls d oe) (hf : ∃ vs, oe.data = .fields vs) (hN : X.N[i]? = some n) (hv : Vis X.env.scope n) (d1 : (n == ("__debug__" : Str)) = false) (d2 : (n == ("__classdict__" : Str)) = false) (h : ckHes n ns hs es = true) :
    PSs (X.suite a ((a, oe) :: pn)) [.Return (some (.Tuple es k p)) p'] (tsH (kf X) T hd a cls d) := by
  refine ⟨fun pins s σ H D I ⟨c', C', ns', vs, dd, fs, pv, B, ρ, hh, hl, ht', hin, hp, sr, q⟩ => ?_⟩
  have hcc : c' = c := by
    rw [hc] at hl
    by_cases e : c' = c
    · exact e
    · have : (c' == c) = false := by simp [e]
      simp [List.lookup, this] at hl
  subst hcc
  rw [ht] at ht'
  cases ht'
  rw [hb] at hp
  have hp : (if hs.length ≤ 1000 then (hs.mapM (heV fs)).map PV.tup else none) = some pv := hp
  split at hp
  · rename_i hlen
    obtain ⟨ps, hps, rfl⟩ := Option.map_eq_some_iff.mp hp
    obtain ⟨ws, hws, rws⟩ := hes_val (K := kf X) hin.fv hps
    have lw : ws.length ≤ 1000 := by
      rw [← (rws B ρ H).length]
      have : ps.length = hs.length := mapM_len hps
      omega
    refine (pss_cons (ps_ret (pe_tupN (pa_hes (vs := vs) F hz hf hN hv d1 d2 h))) pss_nil).run pins s σ H D I ?_
    refine ⟨⟨hin.nm i hm, hin.cls, dd, hin.d, hin.xd⟩, ws, hws, by rw [sizeLine_eq]; omega, fun p o oc od hp0 => ?_⟩
    exact q ρ _ _ (Ext.new hp0) (sr.new hp0) (Rel.tup_new (X := X) oc od sr hp0 (by have : SZ = 16777216 := rfl; omega) (rws B ρ H))
  · cases hp
def ckCs : List HE → List Expr → Bool
  | [], [] => true
  | .cst v :: hs, e :: es => ckC v e && noStar e && ckCs hs es
  | _, _ => false
theorem pa_csts {Y' : Cx} : ∀ {hs : List HE} {es : List Expr}, ckCs hs es = true → PA Y' es (fun σ H Q => ∃ ws, hs.mapM (hV []) = some ws ∧ Q ws H)
  | [], [], _ => PA.mono pa_nil fun σ H Q ⟨ws, hw, q⟩ => by
    simp at hw
    subst hw
    exact q
  | .cst v :: hs, e :: es, hh => by
    unfold ckCs at hh
    rw [Bool.and_eq_true, Bool.and_eq_true] at hh
    obtain ⟨⟨h1, h2⟩, h3⟩ := hh
    obtain ⟨w, hw0, pe⟩ := pe_cstV (X := Y') h1
    refine PA.mono (pa_cons pe (pa_csts h3) (star_one h2)) fun σ H Q ⟨ws, hw, q⟩ => ?_
    rw [List.mapM_cons, show hV [] (.cst v) = fltV v from rfl, hw0] at hw
    cases e2 : hs.mapM (hV []) with
    | none => rw [e2] at hw; simp at hw
    | some ws' =>
      rw [e2] at hw
      simp at hw
      subst hw
      exact ⟨ws', rfl, q⟩
  | [], _ :: _, h => by simp [ckCs] at h
  | .fld _ :: _, _, h => by simp [ckCs] at h
  | .cst _ :: _, [], h => by simp [ckCs] at h
theorem csts_val {fs : List PV} {vs : List V} : ∀ {hs : List HE} {es : List Expr} {ws : List V}, ckCs hs es = true → hs.mapM (hV vs) = some ws → hs.mapM (hV []) = some ws
  | [], [], ws, _, e => e
  | .cst v :: hs, e :: es, ws, hh, hw => by
    unfold ckCs at hh
    rw [Bool.and_eq_true, Bool.and_eq_true] at hh
    rw [List.mapM_cons] at hw ⊢
    cases e1 : fltV v with
    | none => rw [show hV vs (.cst v) = fltV v from rfl, e1] at hw; simp at hw
    | some w =>
      rw [show hV vs (.cst v) = fltV v from rfl, e1] at hw
      rw [show hV [] (.cst v) = fltV v from rfl, e1]
      cases e2 : hs.mapM (hV vs) with
      | none => rw [e2] at hw; simp at hw
      | some ws' =>
        rw [csts_val (fs := fs) hh.2 e2]
        rw [e2] at hw
        exact hw
  | [], _ :: _, _, h, _ => by simp [ckCs] at h
  | .fld _ :: _, _, _, h, _ => by simp [ckCs] at h
  | .cst _ :: _, [], _, h, _ => by simp [ckCs] at h
theorem su_tupC {hd : Hd} {a : Addr} {cls : Value} {d : Option Addr} {Y' : Cx} (hK : Y'.K = X.K) {hs : List HE} {es : List Expr} {k : Nat} {p p' : Pos} (hb : hd.bd = .tup hs) (h : ckCs hs es = true) : PSs Y' [.Return (some (.Tuple es k p)) p'] (tsH (kf X) T hd a cls d) := by
  refine PSs.mono (pss_cons (ps_ret (pe_tupN (pa_csts h))) pss_nil) fun D σ H ⟨c', C', ns', vs, dd, fs, pv, B, ρ, hh, hl, ht', hin, hp, sr, q⟩ => ?_
  rw [hb] at hp
  have hp : (if hs.length ≤ 1000 then (hs.mapM (heV fs)).map PV.tup else none) = some pv := hp
  split at hp
  · rename_i hlen
    obtain ⟨ps, hps, rfl⟩ := Option.map_eq_some_iff.mp hp
    obtain ⟨ws, hws, rws⟩ := hes_val (K := kf X) hin.fv hps
    have lw : ws.length ≤ 1000 := by
      rw [← (rws B ρ H).length]
      have : ps.length = hs.length := mapM_len hps
      omega
    refine ⟨ws, csts_val (fs := fs) h hws, by rw [sizeLine_eq]; omega, fun p o oc od hp0 => ?_⟩
    exact q ρ _ _ (Ext.new hp0) (sr.new hp0) (Rel.tup_new (X := X) oc od sr hp0 (by have : SZ = 16777216 := rfl; omega) (rws B ρ H))
  · cases hp
end
end Y

/-! X8: isinstance(error, C) in a suite, where it is so -/
namespace PySem.W
open PySem PySem.Calls PyProof.Rows
theorem isi_ans {K : Frag} {x t c : Value} {Hh : Heap → Prop} (ty : ∀ (M : Model) (h : Heap), K.In h → Hh h → Looks M h (typeOf x) t) (e : kitOne K t c = some true) : Answers (fun s => K.In s.heap ∧ Hh s.heap) x c true := by
  intro dep tk prog w A R s hs
  obtain ⟨h0, g, d, tt, os⟩ := s
  obtain ⟨⟨X, p⟩, hq⟩ := hs
  have LT := ty (model prog w) h0 X p
  unfold kitOne at e
  unfold Builtin.«isinstance.nested»
  refine wpAny_bind (LT.at ?_)
  by_cases q : (t == c) = true
  · rw [if_pos q]
    first
      | ((repeat lk); exact hq tt)
      | exact wpAny_bind (wpAny_rule (hq tt))
      | exact wpAny_bind (wpAny_rule (wpAny_pure (hq tt)))
  · rw [if_neg q] at e
    rw [if_neg q]
    obtain ⟨hty, his, hsub⟩ := kit_cls (M := model prog w) X e
    refine wpAny_bind (hty.at ?_)
    rw [if_pos (by decide)]
    k_delta "plainIsInstance"
    refine wpAny_bind (wpAny_bind (his.at ?_))
    simp only [Bool.not_true, Bool.false_eq_true, if_false]
    refine wpAny_bind ((LT.andThen hsub : Looks (model prog w) h0 (isInstance x c) true).at ?_)
    first
      | exact wpAny_pure (wpAny_pure (hq tt))
      | (simp only [if_true]; first | exact wpAny_pure (wpAny_pure (hq tt)) | exact wpAny_pure (hq tt) | exact wpAny_bind (wpAny_pure (wpAny_pure (hq tt))))
theorem isi_callT {K : Frag} {x t c : Value} {Hh : Heap → Prop} {prog : Program} {w : World} {A : Around} {E : Value → Shared → Prop} {s : Shared} {Q : Value → Shared → Prop} (ty : ∀ (M : Model) (h : Heap), K.In h → Hh h → Looks M h (typeOf x) t) (X : K.In s.heap) (p : Hh s.heap) (e : kitOne K t c = some true) (hx : x ≠ .builtin "__main__.__loader__#opaque") (h : ∀ tk, Q (.bool true) { s with toks := tk }) :
    wpAny (model prog w) A (call (.builtin "isinstance") [x, c]) Q E s :=
  call_isinstance (S := fun _ R s => (K.In s.heap ∧ Hh s.heap) ∧ ∀ tk, R (.ok (.ret (.bool true))) { s with toks := tk })
    (fun prog w A R s hs => isinstance_outer (isi_ans ty e 0 _ prog w A R s hs) hx) ⟨⟨X, p⟩, h⟩
end PySem.W

namespace Y
open PySem PySem.Spec PyProof.Rows L2
def ckG1 (n D : Str) : Expr → Bool
  | .UnaryOp .Not (.Call (.Name f _) [.Name m _, .Name d _] [] _) _ => decide (f = "isinstance") && decide (m = n) && decide (d = D)
  | _ => false
def ckGs (n : Str) : List Str → List Expr → Bool
  | [D], [t] => ckG1 n D t
  | D :: E :: Ds, t :: u :: ts => ckG1 n D t && ckGs n (E :: Ds) (u :: ts)
  | _, _ => false
section
variable {X : Cx} {a : Addr} {oe : Obj} {cls : Value} {d : Option Addr} {pn : List (Addr × Obj)}
theorem call_isiE (hz : Zc cls d oe) : CallR (X.suite a ((a, oe) :: pn)) (.builtin "isinstance") (fun xs H Q => ∃ CD, xs = [V.ref a, V.ref CD] ∧ PySem.W.kitOne X.K cls (.ref CD) = some true ∧ Q (.bl true) H) := by
  intro pins s σ H xs us Q I r ⟨CD, ex, e, q⟩
  subst ex
  obtain ⟨u1, u2, rfl, r1, r2⟩ := vals2 r
  obtain rfl : u1 = Value.ref a := r1
  obtain rfl : u2 = Value.ref CD := r2
  have hp := (I.pin (a, oe) (List.mem_append_left _ List.mem_cons_self)).1
  exact PySem.W.isi_callT (Hh := fun h => h.get? a = some oe) (fun M h KX ho A Q E s k q => wpAny_typeOf_ref (k _ _ ho) (by rw [hz.1]; exact q)) I.kIn hp e (fun z => nomatch z) fun tk => ⟨.bl true, H, I.tok tk, rfl, q⟩
/-- what is known of the guard's classes -/
def GrdK (X : Cx) (C : Addr) (gd : List Str) : Prop := ∀ D ∈ gd, Gl X D ∧ (D == ("__debug__" : Str)) = false ∧ ∃ CD, X.mg D = some (.ref CD) ∧ PySem.W.kitOne X.K (.ref C) (.ref CD) = some true
theorem pt_g1 {i : Nat} {n D : Str} {C : Addr} {ns : List Str} {vs : List V} (hz : Zc cls d oe) (hgi : Gl X "isinstance") (hmi : X.mg "isinstance" = none) (hN : X.N[i]? = some n) (hv : Vis X.env.scope n) (d1 : (n == ("__debug__" : Str)) = false) (d2 : (n == ("__classdict__" : Str)) = false)
    (hD : Gl X D ∧ (D == ("__debug__" : Str)) = false ∧ ∃ CD, X.mg D = some (.ref CD) ∧ PySem.W.kitOne X.K (.ref C) (.ref CD) = some true) {t : Expr} (h : ckG1 n D t = true) : PT (X.suite a ((a, oe) :: pn)) t (fun σ H Q => Good i a cls d C ns vs σ H ∧ Q false H) := by
  unfold ckG1 at h
  split at h <;> try contradiction
  simp only [Bool.and_eq_true, decide_eq_true_eq] at h
  obtain ⟨⟨rfl, rfl⟩, rfl⟩ := h
  obtain ⟨hg, hdb, CD, hm, hk⟩ := hD
  refine PT.mono (pt_not (pt_val (pe_callB (X := X.suite a ((a, oe) :: pn)) (call_isiE hz) hgi hmi (by decide +kernel) (pa_cons (pe_var (X := X.suite a ((a, oe) :: pn)) hN hv d1 d2) (pa_cons (pe_glob (X := X.suite a ((a, oe) :: pn)) (v := V.ref CD) hg hm rfl hdb) pa_nil (star_one rfl)) (star_one rfl)) (by decide +kernel) (by decide +kernel) (star_one rfl) (star_none (by rfl))))) fun σ H Q ⟨⟨hs, hc, _⟩, q⟩ => ?_
  exact ⟨V.ref a, hs, CD, rfl, by rw [hc]; exact hk, true, rfl, q⟩
theorem pw_gs {i : Nat} {n : Str} {C : Addr} {ns : List Str} {vs : List V} {pos : Pos} (hz : Zc cls d oe) (hgi : Gl X "isinstance") (hmi : X.mg "isinstance" = none) (hN : X.N[i]? = some n) (hv : Vis X.env.scope n) (d1 : (n == ("__debug__" : Str)) = false) (d2 : (n == ("__classdict__" : Str)) = false) :
    ∀ {gd : List Str} {ts : List Expr}, GrdK X C gd → ckGs n gd ts = true → PW (X.suite a ((a, oe) :: pn)) (.BoolOp .Or ts pos) (fun σ H Q => Good i a cls d C ns vs σ H ∧ Q false H)
  | [D], [t], hg, h => by
    unfold ckGs at h
    exact pw_or1 (pt_g1 hz hgi hmi hN hv d1 d2 (hg D (by simp)) h)
  | D :: E :: Ds, t :: u :: ts, hg, h => by
    unfold ckGs at h
    rw [Bool.and_eq_true] at h
    have p := pw_or (pos := pos) (pt_g1 (ns := ns) (vs := vs) hz hgi hmi hN hv d1 d2 (hg D (by simp)) h.1) (pw_gs (ns := ns) (vs := vs) hz hgi hmi hN hv d1 d2 (gd := E :: Ds) (ts := u :: ts) (fun x hx => hg x (List.mem_cons_of_mem _ hx)) h.2)
    refine ⟨fun wh pins s σ H Q I ⟨g, q⟩ => p.run wh pins s σ H Q I ⟨g, ?_⟩⟩
    exact ⟨g, q⟩
  | [], _, _, h => by simp [ckGs] at h
  | [_], [], _, h => by simp [ckGs] at h
  | [_], _ :: _ :: _, _, h => by simp [ckGs] at h
  | _ :: _ :: _, [], _, h => by simp [ckGs] at h
  | _ :: _ :: _, [_], _, h => by simp [ckGs] at h
theorem su_grd {T : List (Addr × List Str)} {hd : Hd} {i c : Nat} {n : Str} {C : Addr} {ns : List Str} {gd : List Str} {ts : List Expr} {alt rest : List Stmt} {pos p : Pos} (hm : hd.nm = some i) (hc : hd.cs = [(c, ns.length)]) (ht : T[c]? = some (C, ns))
    (hz : Zc cls d oe) (hgi : Gl X "isinstance") (hmi : X.mg "isinstance" = none) (hN : X.N[i]? = some n) (hv : Vis X.env.scope n) (d1 : (n == ("__debug__" : Str)) = false) (d2 : (n == ("__classdict__" : Str)) = false) (hg : GrdK X C gd) (h : ckGs n gd ts = true)
    (hr : PSs (X.suite a ((a, oe) :: pn)) rest (tsH (kf X) T hd a cls d)) : PSs (X.suite a ((a, oe) :: pn)) (.If (.BoolOp .Or ts pos) alt [] p :: rest) (tsH (kf X) T hd a cls d) := by
  refine ⟨fun pins s σ H D I w => ?_⟩
  obtain ⟨c', C', ns', vs, dd, fs, pv, B, ρ, hh, hl, ht', hin, hp, sr, q⟩ := id w
  have hcc : c' = c := by
    rw [hc] at hl
    by_cases e : c' = c
    · exact e
    · have : (c' == c) = false := by simp [e]
      simp [List.lookup, this] at hl
  subst hcc
  rw [ht] at ht'
  cases ht'
  have pt := (pw_gs (a := a) (pos := pos) (ns := ns) (vs := vs) (d := d) (pn := pn) hz hgi hmi hN hv d1 d2 hg h).pt
  have no : PSs (X.suite a ((a, oe) :: pn)) alt (fun _ _ _ => False) := ⟨fun _ _ _ _ _ _ z => z.elim⟩
  refine (pss_cons (ps_if pt no pss_nil) hr).run pins s σ H D I ?_
  exact ⟨⟨hin.nm i hm, hin.cls, dd, hin.d, hin.xd⟩, w⟩
end
end Y

/-! V1: sets of keys (ints, texts) made of a list, of a tuple; how many they are -/
namespace Y
open PySem PySem.Spec PyProof.Rows
/-- each once, in the sequence of their first places -/
def dd (l : List L2.Key) : List L2.Key := l.foldl (fun a k => if a.any (fun y => decide (y = k)) then a else a ++ [k]) []
theorem dd_snoc (l : List L2.Key) (k : L2.Key) : dd (l ++ [k]) = if (dd l).any (fun y => decide (y = k)) then dd l else dd l ++ [k] := by
  unfold dd
  rw [List.foldl_append]
  rfl
theorem dd_len (l : List L2.Key) : (dd l).length ≤ l.length := by
  suffices q : ∀ (r : List L2.Key) (n : Nat), r.length = n → (dd r).length ≤ n from q l _ rfl
  intro r n
  induction n generalizing r with
  | zero => intro e; rw [List.eq_nil_of_length_eq_zero e]; exact Nat.le_refl _
  | succ n ih =>
    intro e
    rcases List.eq_nil_or_concat r with rfl | ⟨r', k, rfl⟩
    · cases e
    · rw [List.concat_eq_append] at *
      rw [dd_snoc]
      have := ih r' (by simpa using e)
      split
      · omega
      · simp; omega
theorem set_congr {prog : Program} {w : World} {h : Heap} {a : Addr} {S S' : L2.Key → Bool} {n n' : Nat} (q : h.SetOf (L2.mixKind prog w) a S n) (e : ∀ k, S k = S' k) (en : n = n') : h.SetOf (L2.mixKind prog w) a S' n' := by
  obtain rfl : S = S' := funext e
  subst en
  exact q
inductive KeysAre : List Value → List L2.Key → Prop
  | nil : KeysAre [] []
  | cons {v : Value} {k : L2.Key} {vs : List Value} {ks : List L2.Key} (r : L2.RelV (L2.kV k) v) (t : KeysAre vs ks) : KeysAre (v :: vs) (k :: ks)
theorem KeysAre.len : ∀ {vs : List Value} {ks : List L2.Key}, KeysAre vs ks → vs.length = ks.length
  | _, _, .nil => rfl
  | _, _, .cons _ t => by rw [List.length_cons, List.length_cons, t.len]
theorem KeysAre.at_ : ∀ {vs : List Value} {ks : List L2.Key}, KeysAre vs ks → ∀ (i : Nat) (v : Value), vs[i]? = some v → ∃ k, ks[i]? = some k ∧ L2.RelV (L2.kV k) v
  | _, _, .nil, i, v, h => by simp at h
  | _, _, .cons r t, 0, v, h => by simp at h; subst h; exact ⟨_, rfl, r⟩
  | _, _, .cons r t, i + 1, v, h => by simpa using t.at_ i v (by simpa using h)
section
variable {prog : Program} {w : World} {A : Around} {R : Result → Shared → Prop} {I : Addr} {fp wr : List Addr} {G : Array GenState → Array GenState → Prop} {n : Nat} {P : Nat → Value → Prop} {St : Nat → Shared → Prop}
theorem loopKey (W : WalksS prog w A.in1 I fp wr G n P St) (S : Addr) (hSf : S ∉ fp) (ks : List L2.Key) (hsz : ks.length = n) (hb : n + 1 < scanBound) (hval : ∀ i v, P i v → ∃ k, ks[i]? = some k ∧ L2.RelV (L2.kV k) v) :
    ∀ (d i : Nat) (s : Shared), n - i = d → i ≤ n → St i s → s.heap.SetOf (L2.mixKind prog w) S (fun x => (dd (ks.take i)).any (fun y => decide (y = x))) (dd (ks.take i)).length →
      (∀ s', Moved (S :: wr) G s s' → s'.heap.SetOf (L2.mixKind prog w) S (fun x => (dd (ks.take n)).any (fun y => decide (y = x))) (dd (ks.take n)).length → R (.ok (.ret .none)) s') → codeAny (model prog w) A (.builtin "set.update.loop" ⟨[.ref S, .ref I], []⟩) R s := by
  have nw : S ∉ wr := fun h => hSf (W.sub _ h)
  have hs : ∀ b ∈ wr, b ∈ S :: wr := fun b hb => List.mem_cons_of_mem _ hb
  intro d
  induction d with
  | zero =>
    intro i s hk hi hst hS hR
    obtain rfl : i = n := by omega
    refine codeAny_builtin PyProof.Rows.F.entry_set_update_loop ?_; rw [Around.under_plainId PyProof.Rows.F.plain_set_update_loop _]; show wpAny _ A.in1 (pyNext (.ref I) >>= _) _ _ s
    refine wpAny_bind (W.done s _ _ hst fun s' hm => ?_); show wpAny _ A.in1 (ret Value.none) _ _ s'
    exact wpAny_pure (hR s' (hm.mono hs) (let ⟨o, es, ep, t, ho, q⟩ := hS; ⟨o, es, ep, t, hm.heap S _ nw ho, q⟩))
  | succ d ih =>
    intro i s hk hi hst hS hR
    have hlt : i < n := by omega
    refine codeAny_builtin PyProof.Rows.F.entry_set_update_loop ?_; rw [Around.under_plainId PyProof.Rows.F.plain_set_update_loop _]; show wpAny _ A.in1 (pyNext (.ref I) >>= _) _ _ s
    refine wpAny_bind (W.item i s _ _ hlt hst fun v s' hP hst' hm => ?_)
    obtain ⟨k, ek, rk⟩ := hval i v hP
    have hS' : s'.heap.SetOf (L2.mixKind prog w) S (fun x => (dd (ks.take i)).any (fun y => decide (y = x))) (dd (ks.take i)).length := let ⟨o, es, ep, t, ho, q⟩ := hS; ⟨o, es, ep, t, hm.heap S _ nw ho, q⟩
    show wpAny _ A.in1 (holding [v] (setAdd S v) >>= _) _ _ s'
    refine wpAny_bind (wpAny_holding ?_); unfold setAdd; refine wpAny_holding ?_
    refine wpAny_bind ((L2.mixKind prog w).pyHash (k := k) (L2.kV_is rk) ?_)
    have room : (dd (ks.take i)).length + 1 < scanBound := by
      have h1 := dd_len (ks.take i)
      rw [List.length_take] at h1
      omega
    refine wpAny_setAddHashed_of (knd := L2.mixKind prog w) (s := { s' with toks := s'.toks + 1 }) (L2.kV_is rk) (L2.key_scan rk) hS' room fun g sb hS2 => ?_
    have et : ks.take (i + 1) = ks.take i ++ [k] := by rw [List.take_add_one, ek]; rfl
    have hSi : g.SetOf (L2.mixKind prog w) S (fun x => (dd (ks.take (i + 1))).any (fun y => decide (y = x))) (dd (ks.take (i + 1))).length := by
      refine set_congr hS2 (fun x => ?_) ?_
      · rw [et, dd_snoc]
        by_cases c : (dd (ks.take i)).any (fun y => decide (y = k)) = true
        · rw [if_pos c]
          by_cases e : x = k
          · subst e; rw [c]; simp
          · simp [e]
        · rw [if_neg c, List.any_append]
          by_cases e : x = k
          · subst e; simp
          · have : decide (k = x) = false := decide_eq_false fun z => e z.symm
            simp [this, e]
      · rw [et, dd_snoc]
        split <;> simp
    refine wpAny_pure ⟨plainId_quiet PyProof.Rows.F.plain_set_update_loop _, ih (i + 1) _ (by omega) hlt (W.frame _ s' _ _ hst' (Nat.le_succ _) fun b hb o e => ?_) hSi fun s'' hm'' hS'' => hR s'' (Moved.trans W.gtrans ((hm.mono hs).then_heap (Nat.le_succ _) fun b o hb e => ?_) hm'') hS''⟩
    · rw [sb.2 b (by rintro rfl; exact hSf hb)]; exact e
    · rw [sb.2 b (by rintro rfl; exact hb (List.mem_cons_self ..))]; exact e
end
section
variable {prog : Program} {w : World} {A : Around} {E : Value → Shared → Prop} {s : Shared}

set_option maxHeartbeats 3200000 in
theorem set_of_list {l : Addr} {us : Array Value} {ks : List L2.Key} {Q : Value → Shared → Prop} (hh : A.handled = none) (hl : s.heap.IsList l us) (hi : KeysAre us.toList ks) (hb : us.size + 1 < scanBound)
    (fin : ∀ (g : Heap) (tk : Nat), g.SetOf (L2.mixKind prog w) s.heap.objs.size (fun x => (dd (ks.take us.size)).any (fun y => decide (y = x))) (dd (ks.take us.size)).length → (∀ b o, b < s.heap.objs.size → s.heap.get? b = some o → g.get? b = some o) → Q (.ref s.heap.objs.size) { s with heap := g, toks := tk }) : wpAny (model prog w) A (call (.type "set") [.ref l]) Q E s := by
  obtain ⟨c, tl, hmro⟩ := PySem.F.called_set.mro; have hmade := PySem.F.called_set.made; have hsub := PySem.F.called_set.sub
  refine wpAny_call (codeAny_of_tree ?_); show wpAny _ _ (callAny (.type "set") _) _ _ _
  refine wpAny_pure ⟨Code.quiet_builtin _ (by decide +kernel), codeAny_builtin PySem.F.entry_type_call ?_⟩; rw [Around.under_plain (weight_type_call_type "set" [.ref l] []) rfl]
  have h1 := PySem.F.called_set.notType; have h2 := PySem.F.called_set.canCreate; have hct := PySem.F.typeCall_set_1 (.ref l)
  repeat (any_goals (first | assumption | wp_step))
  let o0 (led : Bool) : Obj := { cls := .type "set", dict := none, data := .set #[] 0 (.fresh 0 0 led) }
  refine codeAny_mono (code_set_new_1 (.ref l) (E := E) (Q₁ := fun ob t => ∃ led : Bool, ob = .ref s.heap.objs.size ∧ t = { s with heap := s.heap.push (o0 led) }) fun led => ⟨led, rfl, rfl⟩) fun r t hr => ?_
  cases r with
  | error e => exact hr
  | ok fl => cases fl with
    | ret ob =>
      obtain ⟨led, rfl, rfl⟩ := hr
      have hS : (s.heap.push (o0 led)).get? s.heap.objs.size = some (o0 led) := Heap.get?_push_size _ rfl
      have hT : Shared.TypeIs { s with heap := s.heap.push (o0 led) } (.ref s.heap.objs.size) "set" := ⟨_, hS, rfl⟩
      have hli := PySem.F.called_set.init.lookup; have hbi := PySem.F.called_set.init.bind (.ref s.heap.objs.size)
      repeat (any_goals (first | assumption | wp_step))
      refine codeAny_mono (codeAny_call_builtin (R := wants (fun r t => r = .none ∧ ∃ g tk, t = { s with heap := g, toks := tk } ∧ g.SetOf (L2.mixKind prog w) s.heap.objs.size (fun x => (dd (ks.take us.size)).any (fun y => decide (y = x))) (dd (ks.take us.size)).length ∧ (∀ b o, b < s.heap.objs.size → s.heap.get? b = some o → g.get? b = some o)) E) PySem.F.called_set.init.plain PySem.F.entry_set_init (check_set_init_1 hT ?_)) fun r2 t2 hr2 => ?_
      · obtain ⟨⟨oc, od, odt, osl⟩, hol, hcl, nl, hdl⟩ := hl
        simp only at hcl hdl; subst hcl; subst hdl
        have hol' : (s.heap.push (o0 led)).get? l = some { cls := .type "list", dict := od, data := .seq us nl, slots := osl } := Heap.get?_push_of_some _ hol
        have q1 := PySem.F.sub_list_set; have q2 := PySem.F.sub_list_frozenset; have q3 : (Value.type "list" == Value.type "dict") = false := by decide
        have hl1 : (s.heap.push (o0 led)).IsList l us := ⟨_, hol', rfl, nl, rfl⟩
        unfold Builtin.«set.__init__» noKeywords Builtin.Frozenset.updateFrom; generalize hPI : pyIter = PI; wp_walk; subst hPI
        refine wpAny_pyIter_list hl1 ?_; refine wpAny_bind (wpAny_runValue ?_)
        have hlS : l < s.heap.objs.size := Heap.lt_size hol
        have h3 : A.in1.in1.in1.handled = none := by simp [hh]
        have neI : l ≠ (s.heap.push (o0 led)).objs.size := by rw [Heap.size_push]; exact Nat.ne_of_lt (Nat.lt_succ_of_lt hlS)
        have hSf : s.heap.objs.size ∉ [(s.heap.push (o0 led)).objs.size, l] := by
          rw [Heap.size_push]; simp only [List.mem_cons, List.mem_singleton, List.not_mem_nil, or_false, not_or]; exact ⟨Nat.ne_of_lt (Nat.lt_succ_self _), Nat.ne_of_gt hlS⟩
        have hsz : ks.length = us.size := by rw [← hi.len, Array.length_toList]
        refine loopKey ((Walks.list h3 _ l neI us).toS) s.heap.objs.size hSf ks hsz hb (fun i v hv => hi.at_ i v (by rw [Array.getElem?_toList]; exact hv)) (us.size - 0) 0 _ (by omega) (Nat.zero_le _) ⟨⟨_, Heap.get?_push_size _ rfl, rfl, rfl⟩, (hl1.push _)⟩ ?hS0 ?hR
        case hS0 =>
          have hget : ((s.heap.push (o0 led)).push { cls := .type "list_iterator", data := .fields #[.ref l, .int 0 0] }).get? s.heap.objs.size = some (o0 led) := Heap.get?_push_of_some _ hS
          exact ⟨_, #[], 0, _, hget, ⟨rfl, rfl, rfl⟩, rfl, (fun e he => by simp at he), (fun k => by simp [dd]), (by decide), (by rfl), rfl⟩
        case hR =>
          rintro ⟨g, gn, dw, tk, os⟩ hm hS'
          have eg : gn = s.gens := hm.gens; have ed : dw = s.drawn := hm.drawn; have eo : os = s.os := hm.os
          subst eg; subst ed; subst eo
          show wpAny _ _ _ _ _ _; refine wpAny_pure ?_; show wpAny _ _ (ret Value.none) _ _ _
          refine wpAny_pure ⟨rfl, g, tk, rfl, hS', fun b o hb e => hm.heap b o ?_ (Heap.get?_push_of_some _ (Heap.get?_push_of_some _ e))⟩
          simp only [List.mem_cons, List.mem_singleton, List.not_mem_nil, or_false, not_or]
          exact ⟨Nat.ne_of_lt hb, by rw [Heap.size_push]; exact Nat.ne_of_lt (Nat.lt_succ_of_lt hb)⟩
      · cases r2 with
        | error e => exact hr2
        | ok f2 => cases f2 with
          | ret r =>
            obtain ⟨rfl, g, tk, rfl, hS', hk⟩ := hr2
            repeat (any_goals (first | assumption | wp_step))
            exact fin _ _ hS' hk
          | _ => exact hr2.elim
    | _ => exact hr.elim

set_option maxHeartbeats 3200000 in
theorem set_of_tuple {l : Addr} {us : Array Value} {ks : List L2.Key} {Q : Value → Shared → Prop} (hh : A.handled = none) (hl : s.heap.IsTuple l us) (hi : KeysAre us.toList ks) (hb : us.size + 1 < scanBound)
    (fin : ∀ (g : Heap) (tk : Nat), g.SetOf (L2.mixKind prog w) s.heap.objs.size (fun x => (dd (ks.take us.size)).any (fun y => decide (y = x))) (dd (ks.take us.size)).length → (∀ b o, b < s.heap.objs.size → s.heap.get? b = some o → g.get? b = some o) → Q (.ref s.heap.objs.size) { s with heap := g, toks := tk }) : wpAny (model prog w) A (call (.type "set") [.ref l]) Q E s := by
  obtain ⟨c, tl, hmro⟩ := PySem.F.called_set.mro; have hmade := PySem.F.called_set.made; have hsub := PySem.F.called_set.sub
  refine wpAny_call (codeAny_of_tree ?_); show wpAny _ _ (callAny (.type "set") _) _ _ _
  refine wpAny_pure ⟨Code.quiet_builtin _ (by decide +kernel), codeAny_builtin PySem.F.entry_type_call ?_⟩; rw [Around.under_plain (weight_type_call_type "set" [.ref l] []) rfl]
  have h1 := PySem.F.called_set.notType; have h2 := PySem.F.called_set.canCreate; have hct := PySem.F.typeCall_set_1 (.ref l)
  repeat (any_goals (first | assumption | wp_step))
  let o0 (led : Bool) : Obj := { cls := .type "set", dict := none, data := .set #[] 0 (.fresh 0 0 led) }
  refine codeAny_mono (code_set_new_1 (.ref l) (E := E) (Q₁ := fun ob t => ∃ led : Bool, ob = .ref s.heap.objs.size ∧ t = { s with heap := s.heap.push (o0 led) }) fun led => ⟨led, rfl, rfl⟩) fun r t hr => ?_
  cases r with
  | error e => exact hr
  | ok fl => cases fl with
    | ret ob =>
      obtain ⟨led, rfl, rfl⟩ := hr
      have hS : (s.heap.push (o0 led)).get? s.heap.objs.size = some (o0 led) := Heap.get?_push_size _ rfl
      have hT : Shared.TypeIs { s with heap := s.heap.push (o0 led) } (.ref s.heap.objs.size) "set" := ⟨_, hS, rfl⟩
      have hli := PySem.F.called_set.init.lookup; have hbi := PySem.F.called_set.init.bind (.ref s.heap.objs.size)
      repeat (any_goals (first | assumption | wp_step))
      refine codeAny_mono (codeAny_call_builtin (R := wants (fun r t => r = .none ∧ ∃ g tk, t = { s with heap := g, toks := tk } ∧ g.SetOf (L2.mixKind prog w) s.heap.objs.size (fun x => (dd (ks.take us.size)).any (fun y => decide (y = x))) (dd (ks.take us.size)).length ∧ (∀ b o, b < s.heap.objs.size → s.heap.get? b = some o → g.get? b = some o)) E) PySem.F.called_set.init.plain PySem.F.entry_set_init (check_set_init_1 hT ?_)) fun r2 t2 hr2 => ?_
      · obtain ⟨⟨oc, od, odt, osl⟩, hol, hcl, nl, hdl⟩ := hl
        simp only at hcl hdl; subst hcl; subst hdl
        have hol' : (s.heap.push (o0 led)).get? l = some { cls := .type "tuple", dict := od, data := .seq us nl, slots := osl } := Heap.get?_push_of_some _ hol
        have q1 := PySem.F.sub_tuple_set; have q2 := PySem.F.sub_tuple_frozenset; have q3 : (Value.type "tuple" == Value.type "dict") = false := by decide
        have hl1 : (s.heap.push (o0 led)).IsTuple l us := ⟨_, hol', rfl, nl, rfl⟩
        unfold Builtin.«set.__init__» noKeywords Builtin.Frozenset.updateFrom; generalize hPI : pyIter = PI; wp_walk; subst hPI
        refine wpAny_pyIter_tuple hl1 ?_; refine wpAny_bind (wpAny_runValue ?_)
        have hlS : l < s.heap.objs.size := Heap.lt_size hol
        have h3 : A.in1.in1.in1.handled = none := by simp [hh]
        have neI : l ≠ (s.heap.push (o0 led)).objs.size := by rw [Heap.size_push]; exact Nat.ne_of_lt (Nat.lt_succ_of_lt hlS)
        have hSf : s.heap.objs.size ∉ [(s.heap.push (o0 led)).objs.size, l] := by
          rw [Heap.size_push]; simp only [List.mem_cons, List.mem_singleton, List.not_mem_nil, or_false, not_or]; exact ⟨Nat.ne_of_lt (Nat.lt_succ_self _), Nat.ne_of_gt hlS⟩
        have hsz : ks.length = us.size := by rw [← hi.len, Array.length_toList]
        refine loopKey ((Walks.tuple h3 _ l neI us).toS) s.heap.objs.size hSf ks hsz hb (fun i v hv => hi.at_ i v (by rw [Array.getElem?_toList]; exact hv)) (us.size - 0) 0 _ (by omega) (Nat.zero_le _) ⟨⟨_, Heap.get?_push_size _ rfl, rfl, rfl⟩, (hl1.push _)⟩ ?hS0 ?hR
        case hS0 =>
          have hget : ((s.heap.push (o0 led)).push { cls := .type "tuple_iterator", data := .fields #[.ref l, .int 0 0] }).get? s.heap.objs.size = some (o0 led) := Heap.get?_push_of_some _ hS
          exact ⟨_, #[], 0, _, hget, ⟨rfl, rfl, rfl⟩, rfl, (fun e he => by simp at he), (fun k => by simp [dd]), (by decide), (by rfl), rfl⟩
        case hR =>
          rintro ⟨g, gn, dw, tk, os⟩ hm hS'
          have eg : gn = s.gens := hm.gens; have ed : dw = s.drawn := hm.drawn; have eo : os = s.os := hm.os
          subst eg; subst ed; subst eo
          show wpAny _ _ _ _ _ _; refine wpAny_pure ?_; show wpAny _ _ (ret Value.none) _ _ _
          refine wpAny_pure ⟨rfl, g, tk, rfl, hS', fun b o hb e => hm.heap b o ?_ (Heap.get?_push_of_some _ (Heap.get?_push_of_some _ e))⟩
          simp only [List.mem_cons, List.mem_singleton, List.not_mem_nil, or_false, not_or]
          exact ⟨Nat.ne_of_lt hb, by rw [Heap.size_push]; exact Nat.ne_of_lt (Nat.lt_succ_of_lt hb)⟩
      · cases r2 with
        | error e => exact hr2
        | ok f2 => cases f2 with
          | ret r =>
            obtain ⟨rfl, g, tk, rfl, hS', hk⟩ := hr2
            repeat (any_goals (first | assumption | wp_step))
            exact fin _ _ hS' hk
          | _ => exact hr2.elim
    | _ => exact hr.elim
end
end Y

/-! V2: len(set(x)) -/
namespace Y
open PySem PySem.Spec PyProof.Rows L2
variable {X : Cx} {xw : L2.St → XW} {B : Addr → Prop} {ρ : List Addr} {h : Hh} {H : Hp}
theorem keysAre_of : ∀ {ks : List Key} {us : List Value}, Vals (ks.map kV) us → KeysAre us ks
  | [], _, .nil => .nil
  | k :: ks, _, .cons r t => .cons r (keysAre_of t)
def tLSet (K : PySem.W.Frag) (ta : TE) : TE := fun σ H Q => ta σ H fun x H1 => ∃ a ks, x = .ref a ∧ (SqL K H1 a (ks.map kV) ∨ SqT K H1 a (ks.map kV)) ∧ ks.length ≤ 4000 ∧ Q (.int ((dd ks).length : Nat)) H1
theorem pe_lset {a : Expr} {ta : TE} {p p2 q pos : Pos} (hc : X.calm = true) (hg : Gl X "len") (hm : X.mg "len" = none) (hg2 : Gl X "set") (hm2 : X.mg "set" = none) (na : starEach [a] X.env = (false, eval a X.env) :: starEach [] X.env) (ha : PE X a ta) :
    PE X (.Call (.Name "len" p) [.Call (.Name "set" p2) [a] [] q] [] pos) (tLSet X.K ta) := by
  refine ⟨fun pins s σ H Q I hh => Call_ (ld_blt I hg hm PySem.boot_len ?_)⟩
  refine PyProof.Rows.callWith_builtin1 (PyProof.Rows.args_cons (Call_ (ld_blt I hg2 hm2 PyProof.Rows.boot_set ?_)) rfl) rfl rfl
  refine PyProof.Rows.callWith_type1 (PyProof.Rows.args_cons (thn (ha.run pins s σ H _ I hh) fun v s1 ⟨x, H1, I1, r1, q1⟩ => PyProof.Rows.args_nil ?_) na) na rfl
  obtain ⟨l, ks, rfl, hq, hl, q1⟩ := q1
  cases r1
  have fin : ∀ (its : List Value), Vals (ks.map kV) its → ∀ (g : Heap) (tk : Nat), g.SetOf (mixKind X.prog X.w) s1.heap.objs.size (fun k' => (dd (ks.take its.toArray.size)).any fun y => decide (y = k')) (dd (ks.take its.toArray.size)).length →
      (∀ b o, b < s1.heap.objs.size → s1.heap.get? b = some o → g.get? b = some o) →
      wpAny (model X.prog X.w) X.A (spliced (backTo pos (starEach [] X.env))) (fun vs t => wpAny (model X.prog X.w) X.A (call (.builtin "len") (Value.ref s1.heap.objs.size :: vs)) (EP X pins σ Q) X.xe t) X.xe { s1 with heap := g, toks := tk } := fun its r g tk hS hk => by
    refine PyProof.Rows.args_nil ?_
    have e1 : its.toArray.size = ks.length := by rw [List.size_toArray, ← r.length, List.length_map]
    rw [e1, List.take_length] at hS
    have le := dd_len ks
    obtain ⟨o, es, ep, t, ho, hex, hd, _, _, _, hf, hn⟩ := hS
    have I2 : Inv X pins σ H1 { s1 with heap := g, toks := tk } := I1.kept fun b o e => hk b o (Heap.lt_size e) e
    exact call_len_set ho hex hd hf (by rw [hn]; omega) ⟨.int ((dd ks).length : Nat), H1, I2.tok _, ⟨_, by rw [hn]⟩, q1⟩
  rcases hq with hq | hq
  · obtain ⟨its, r, pl, hz⟩ := I1.list hq
    have e1 : its.toArray.size = ks.length := by rw [List.size_toArray, ← r.length, List.length_map]
    exact set_of_list (I1.ok.hd hc) pl.isList (keysAre_of r) (by rw [e1]; unfold scanBound; omega) fun g tk hS hk => fin its r g tk hS hk
  · obtain ⟨its, r, pl, hz⟩ := I1.tuple hq
    have e1 : its.toArray.size = ks.length := by rw [List.size_toArray, ← r.length, List.length_map]
    exact set_of_tuple (I1.ok.hd hc) pl (keysAre_of r) (by rw [e1]; unfold scanBound; omega) fun g tk hS hk => fin its r g tk hS hk
theorem keys_V : ∀ {l : List PV} {vs : List V}, l.all isKey = true → Rels (kf X) B ρ H l vs → vs = (l.map toK).map kV
  | [], vs, _, r => by rw [r.nil_inv]; rfl
  | x :: l, vs, h, r => by
    rw [List.all_cons, Bool.and_eq_true] at h
    obtain ⟨w, ws, rfl, r1, r2⟩ := r.cons_inv
    rw [key_V h.1 r1, keys_V h.2 r2]
    rfl
theorem dd_map : ∀ {l : List PV}, l.all isKey = true → dd (l.map toK) = (ddP l).map toK := by
  intro l hl
  suffices q : ∀ (l acc : List PV), l.all isKey = true → acc.all isKey = true → (l.map toK).foldl (fun a k => if a.any (fun y => decide (y = k)) then a else a ++ [k]) (acc.map toK) = (l.foldl (fun a k => if a.any (fun y => decide (y = k)) then a else a ++ [k]) acc).map toK from q l [] hl rfl
  intro l
  induction l with
  | nil => intro acc _ _; rfl
  | cons x l ih =>
    intro acc h1 h2
    rw [List.all_cons, Bool.and_eq_true] at h1
    have e : ((acc.map toK).any fun y => decide (y = toK x)) = acc.any fun y => decide (y = x) := by
      rw [List.any_map]
      rw [Bool.eq_iff_iff, List.any_eq_true, List.any_eq_true]
      constructor
      · rintro ⟨y, hy, e⟩
        refine ⟨y, hy, ?_⟩
        have e : toK y = toK x := of_decide_eq_true e
        have k1 := keyP_toK (List.all_eq_true.mp h2 y hy)
        have k2 := keyP_toK h1.1
        rw [e, k2] at k1
        exact decide_eq_true k1.symm
      · rintro ⟨y, hy, e⟩
        have e : y = x := of_decide_eq_true e
        subst e
        exact ⟨y, hy, decide_eq_true rfl⟩
    simp only [List.map_cons, List.foldl_cons, e]
    split
    · exact ih acc h1.2 h2
    · have := ih (acc ++ [x]) h1.2 (by rw [List.all_append, h2]; simp [h1.1])
      rwa [List.map_append] at this
theorem d_lset {e : Expr} {p p2 q pos : Pos} {m : Ev → M PV} {fr : Bool} (hc : X.calm = true) (hg : Gl X "len") (hm : X.mg "len" = none) (hg2 : Gl X "set") (hm2 : X.mg "set" = none) (hs : starEach [e] X.env = (false, eval e X.env) :: starEach [] X.env) (he : PE X e (dn (kf X) xw m fr)) :
    PE X (.Call (.Name "len" p) [.Call (.Name "set" p2) [e] [] q] [] pos) (dn (kf X) xw (fun env => do
      let x ← m env
      fun h => lift ((lsetV h x).map .int) h) false) := by
  refine PE.mono (pe_lset hc hg hm hg2 hm2 hs he) fun σ H Q ⟨B, ρ, h, env, s, er, q⟩ => dn_seq s er q fun x h1 ρ1 H1 v e1 s1 er1 r1 _ q => ?_
  have q : Post (kf X) B (xw σ) ρ1 H1 (lift ((lsetV h1 x).map PV.int) h1) _ := q
  unfold lsetV at q
  cases e : seqOf h1 x with
  | none => rw [e] at q; exact q.elim
  | some l =>
    rw [e] at q
    simp only at q
    by_cases c : (l.all isKey && decide (l.length ≤ 4000)) = true
    · rw [if_pos c] at q
      rw [Bool.and_eq_true, decide_eq_true_eq] at c
      obtain ⟨a, vs, rfl, f, z, rs⟩ := seq_at s1 r1 e
      have ev := keys_V c.1 rs
      refine ⟨a, l.map toK, rfl, by rw [← ev]; exact f, by rw [List.length_map]; exact c.2, ?_⟩
      rw [dd_map c.1, List.length_map]
      exact q ρ1 H1 (Ext.refl _ _) s1 _ Rel.int_mk (fun _ z => by cases z)
    · rw [if_neg c] at q
      exact q.elim
end Y

/-! K7: the checker -/
namespace Y
open PySem PySem.Spec PyProof.Rows L2

structure FnI where
  name : Str
  ps : List Str
  kws : List (List Str × List Nat)
/-- an own exception class that is raised: its name, its fields -/
structure XI where
  name : Str
  fs : List Str
/-- the module's constants; the exception classes; the classes that clauses name, with what they catch -/
structure CsT where
  k : List (Str × PV)
  x : List XI
  h : List (Str × List (Nat × Nat))
  g : List (Str × List Nat)
/-- what the text of a def is read against: slots, functions, built-in names that stand for themselves -/
structure Cfg where
  N : List Str
  fs : List FnI
  bl : List Str
  cs : CsT

def lk (sc : Scope) (x : Str) (k : NameKind) : Bool := decide (sc.names.lookup x = some k)
def okNm (x : Str) : Bool := (x == ("__debug__" : Str)) == false && (x == ("__classdict__" : Str)) == false
def vis (c : Cfg) (sc : Scope) (i : Nat) (x : Str) : Bool := decide (c.N[i]? = some x) && (lk sc x .local || lk sc x .cell || lk sc x .free) && okNm x
def glb (c : Cfg) (sc : Scope) (x : Str) : Bool := lk sc x .globalImplicit && c.bl.contains x
def asnB (c : Cfg) (raw : Scope) (i : Nat) (x : Str) : Bool := decide (c.N[i]? = some x) && (lk raw x .local || lk raw x .cell)
def ckNs (c : Cfg) (raw : Scope) : List Nat → List Expr → Bool
  | [], [] => true
  | i :: is, .Name x _ :: es => asnB c raw i x && ckNs c raw is es
  | _, _ => false
def ckTg (c : Cfg) (raw : Scope) : Tg → Expr → Bool
  | .nm i, .Name x _ => asnB c raw i x
  | .tp is, .Tuple es _ _ => ckNs c raw is es
  | _, _ => false
def ownP (N : List Str) (own : List Nat) : List (Str × Nat) := own.map fun i => (N.getD i Str.empty, i)
def blkB (N : List Str) (sc scope : Scope) (own : List (Str × Nat)) : Bool :=
  decide (scope.kind = .function) && (scope.names.all fun y => decide (scope.names.lookup y.1 = some y.2)) && (own.all fun p => decide (N[p.2]? = some p.1))
    && (scope.names.all fun y => !decide (y.2 = .free) || lk sc y.1 .cell || lk sc y.1 .free) && (scope.names.all fun y => !(decide (y.2 = .local) || decide (y.2 = .cell)) || (own.map (·.1)).contains y.1 || !N.contains y.1)
def noSet : Expr → Bool
  | .Set .. => false
  | _ => true
def isTp : Expr → Bool
  | .Tuple .. => true
  | _ => false
def frE : E → Bool
  | .lst .. => true | .dct .. => true | .bin .. => true | .sl .. => true | .bi .. => true | .lrng1 .. => true | .lrng2 .. => true | .comp1 .. => true | .comp2 .. => true | .lrng3 .. => true | .rev .. => true | .dcomp .. => true | _ => false
def rngN (isT : Bool) : Str := if isT then "tuple" else "list"
/-- a test that is read by its value -/
def plainT : Expr → Bool
  | .UnaryOp .Not .. => false
  | .BoolOp .. => false
  | .IfExp .. => false
  | .Compare .. => false
  | _ => true
mutual
def ckE (c : Cfg) : Scope → Scope → E → Expr → Bool
  | sc, _, .var i, x => match x with
    | .Name n _ => vis c sc i n
    | _ => false
  | _, _, .non, x => match x with
    | .Constant .none _ _ => true
    | _ => false
  | _, _, .bl b, x => match x with
    | .Constant (.bool b') _ _ => decide (b = b')
    | _ => false
  | _, _, .int b, x => match x with
    | .Constant (.int b') _ _ => decide (b = b')
    | _ => false
  | _, _, .str b, x => match x with
    | .Constant (.str b') _ _ => decide (b = b')
    | _ => false
  | sc, raw, .tup es, x => match x with
    | .Tuple xs _ _ => ckEs c sc raw es xs && decide (es.length ≤ 1000) && xs.all noStar
    | _ => false
  | sc, raw, .lst es, x => match x with
    | .List xs _ => ckEs c sc raw es xs && decide (es.length ≤ 1000) && xs.all noStar
    | _ => false
  | sc, raw, .dct kvs, x => match x with
    | .Dict ks vs _ => ckKv c sc raw kvs ks vs && decide (ks.length ≤ 15)
    | _ => false
  | sc, raw, .box e, x => ckE c sc raw e x && frE e
  | sc, raw, .bin o a b, x => match x with
    | .BinOp l op r _ => decide (op = opA o) && ckE c sc raw a l && ckE c sc raw b r
    | _ => false
  | sc, raw, .neg a, x => match x with
    | .UnaryOp .USub y _ => ckE c sc raw a y
    | _ => false
  | sc, raw, .cmp o a b, x => match x with
    | .Compare l [op] [r] _ => decide (op = cmpA o) && ckE c sc raw a l && ckE c sc raw b r && !behindInMarks (cmpA o) r
    | _ => false
  | sc, raw, .chain o o' a b d, x => match x with
    | .Compare l [op, op'] [r, r'] _ => decide (op = cmpA o) && decide (op' = cmpA o') && ckE c sc raw a l && ckE c sc raw b r && ckE c sc raw d r' && !lastMarks [cmpA o, cmpA o'] [r, r']
    | _ => false
  | sc, raw, .boo isAnd es, x => match x with
    | .BoolOp op xs _ => decide (op = boA isAnd) && ckEs c sc raw es xs && !es.isEmpty
    | _ => false
  | sc, raw, .not a, x => match x with
    | .UnaryOp .Not y _ => ckE c sc raw a y
    | _ => false
  | sc, raw, .ite t a b, x => match x with
    | .IfExp t' a' b' _ => ckT c sc raw t t' && ckE c sc raw a a' && ckE c sc raw b b'
    | _ => false
  | sc, raw, .ix a b, x => match x with
    | .Subscript l r _ => ckE c sc raw a l && ckE c sc raw b r && noSlice r
    | _ => false
  | sc, raw, .sl a lo hi, x => match x with
    | .Subscript l (.Slice u w none _) _ => ckE c sc raw a l && ckO c sc raw lo u && ckO c sc raw hi w
    | _ => false
  | sc, raw, .rev a, x => match x with
    | .Subscript l (.Slice none none (some (.UnaryOp .USub (.Constant (.int 1) _ _) _)) _) _ => ckE c sc raw a l
    | _ => false
  | sc, raw, .bi b es, x => match x with
    | .Call (.Name n _) xs [] _ => decide (n = biN b) && glb c sc (biN b) && ckEs c sc raw es xs && xs.all noStar && !es.isEmpty
    | _ => false
  | sc, raw, .isi a t, x => match x with
    | .Call (.Name n _) [y, .Name n2 _] [] _ => decide (n = "isinstance") && decide (n2 = tyN t) && glb c sc "isinstance" && glb c sc (tyN t) && ckE c sc raw a y && noStar y
    | _ => false
  | sc, raw, .mt m o es, x => match x with
    | .Call (.Attribute y n ap) xs [] cp => decide (n = mtNm m) && ckE c sc raw o y && noCall y && (ap.endLine == cp.line) && xs.all noStar && ckEs c sc raw es xs && (match m with
      | .pop0 => es.isEmpty
      | .join => decide (es.length = 1)
      | .get1 => decide (es.length = 1)
      | .index => decide (es.length = 1)
      | _ => !es.isEmpty && decide (es.length < 30))
    | _ => false
  | sc, raw, .call r f es, x => match x with
    | .Call (.Name n _) xs [] _ => (match c.fs[f]? with
      | some fi => decide (n = fi.name) && lk sc n .globalImplicit && okNm n && ckEs c sc raw es xs && xs.all noStar && decide (es.length = fi.ps.length)
      | none => false)
    | _ => false
  | sc, raw, .callk r f perm es, x => match x with
    | .Call (.Name n _) [] kws _ => (match c.fs[f]? with
      | some fi => decide (n = fi.name) && lk sc n .globalImplicit && okNm n && ckKw c sc raw es kws && kwAll kws && fi.kws.contains (kwNames kws, perm) && decide (perm.length = fi.ps.length)
      | none => false)
    | _ => false
  | sc, raw, .lrng1 isT a, x => match x with
    | .Call (.Name n _) [.Call (.Name n2 _) [y] [] _] [] _ => decide (n = rngN isT) && decide (n2 = "range") && glb c sc (rngN isT) && glb c sc "range" && noStar y && ckE c sc raw a y
    | _ => false
  | sc, raw, .lrng2 isT a b, x => match x with
    | .Call (.Name n _) [.Call (.Name n2 _) [y, z] [] _] [] _ => decide (n = rngN isT) && decide (n2 = "range") && glb c sc (rngN isT) && glb c sc "range" && noStar y && noStar z && ckE c sc raw a y && ckE c sc raw b z
    | _ => false
  | sc, raw, .lrng3 isT a b d, x => match x with
    | .Call (.Name n _) [.Call (.Name n2 _) [y, z, w] [] _] [] _ => isT && decide (n = "tuple") && decide (n2 = "range") && glb c sc "tuple" && glb c sc "range" && noStar y && noStar z && noStar w && ckE c sc raw a y && ckE c sc raw b z && ckE c sc raw d w
    | _ => false
  | sc, _, .cst n v, x => match x with
    | .Name m _ => decide (m = n) && c.cs.k.any (fun p => decide (p.1 = n) && decide (p.2 = v)) && lk sc n .globalImplicit && okNm n
    | _ => false
  | sc, raw, .comp1 t it ifs elt own, x => match x with
    | .ListComp y [⟨tg, iter, ifs', k⟩] scope _ => decide (k = 0) && blkB c.N sc scope (ownP c.N own) && ckTg c scope t tg && (tgs t).all own.contains && ckI c sc raw (isTp tg) it iter && ckT1 c (relS scope sc) scope ifs ifs' && ckE c (relS scope sc) scope elt y && noSet iter
    | _ => false
  | sc, raw, .comp2 t it ifs t1 it1 ifs1 elt own own1, x => match x with
    | .ListComp y [⟨tg, iter, ifs', k⟩, ⟨tg1, iter1, ifs1', k1⟩] scope _ => decide (k = 0) && decide (k1 = 0) && blkB c.N sc scope (ownP c.N own) && ckTg c scope t tg && (tgs t).all own.contains && ckI c sc raw (isTp tg) it iter && ckT1 c (relS scope sc) scope ifs ifs'
        && ckTg c scope t1 tg1 && (tgs t1).all own1.contains && own1.all own.contains && ckI c (relS scope sc) scope (isTp tg1) it1 iter1 && ckT1 c (relS scope sc) scope ifs1 ifs1' && ckE c (relS scope sc) scope elt y && noSet iter && noSet iter1
    | _ => false
  | sc, raw, .get2 o k z, x => match x with
    | .Call (.Attribute y n ap) [a, b] [] cp => decide (n = "get") && ckE c sc raw o y && ckE c sc raw k a && ckE c sc raw z b && noCall y && (ap.endLine == cp.line) && noStar a && noStar b
    | _ => false
  | sc, raw, .dcomp t it ifs k v own, x => match x with
    | .DictComp y z [⟨tg, iter, ifs', n⟩] scope _ => decide (n = 0) && blkB c.N sc scope (ownP c.N own) && ckTg c scope t tg && (tgs t).all own.contains && ckI c sc raw (isTp tg) it iter && ckT1 c (relS scope sc) scope ifs ifs' && ckE c (relS scope sc) scope k y && ckE c (relS scope sc) scope v z && noSet iter
    | _ => false
  | sc, raw, .lset e, x => match x with
    | .Call (.Name n _) [.Call (.Name n2 _) [y] [] _] [] _ => decide (n = "len") && decide (n2 = "set") && glb c sc "len" && glb c sc "set" && noStar y && ckE c sc raw e y
    | _ => false
def ckI (c : Cfg) : Scope → Scope → Bool → I → Expr → Bool
  | sc, raw, _, .seq e, x => ckE c sc raw e x
  | sc, raw, _, .txt e, x => ckE c sc raw e x
  | sc, raw, _, .rng1 a, x => match x with
    | .Call (.Name n _) [y] [] _ => decide (n = "range") && glb c sc "range" && noStar y && ckE c sc raw a y
    | _ => false
  | sc, raw, _, .rng2 a b, x => match x with
    | .Call (.Name n _) [y, z] [] _ => decide (n = "range") && glb c sc "range" && noStar y && noStar z && ckE c sc raw a y && ckE c sc raw b z
    | _ => false
  | sc, raw, _, .rng3 a b d, x => match x with
    | .Call (.Name n _) [y, z, w] [] _ => decide (n = "range") && glb c sc "range" && noStar y && noStar z && noStar w && ckE c sc raw a y && ckE c sc raw b z && ckE c sc raw d w
    | _ => false
  | sc, raw, tp, .enum e, x => match x with
    | .Call (.Name n _) [y] [] _ => tp && decide (n = "enumerate") && glb c sc "enumerate" && noStar y && ckE c sc raw e y
    | _ => false
  | sc, raw, tp, .etxt e, x => match x with
    | .Call (.Name n _) [y] [] _ => tp && decide (n = "enumerate") && glb c sc "enumerate" && noStar y && ckE c sc raw e y
    | _ => false
  | sc, raw, tp, .zip a b, x => match x with
    | .Call (.Name n _) [y, z] [] _ => tp && decide (n = "zip") && glb c sc "zip" && noStar y && noStar z && ckE c sc raw a y && ckE c sc raw b z
    | _ => false
def ckT (c : Cfg) : Scope → Scope → T → Expr → Bool
  | sc, raw, .boo isAnd es, x => match x with
    | .BoolOp op xs _ => decide (op = boA isAnd) && ckTs c sc raw es xs && !es.isEmpty
    | _ => false
  | sc, raw, .not a, x => match x with
    | .UnaryOp .Not y _ => ckT c sc raw a y
    | _ => false
  | _, _, .ite .., _ => false
  | sc, raw, .val e, x => match x with
    | .Compare .. => (match e with | .cmp .. => true | .chain .. => true | _ => false) && ckE c sc raw e x
    | _ => plainT x && ckE c sc raw e x
def ckEs (c : Cfg) : Scope → Scope → List E → List Expr → Bool
  | _, _, [], x => match x with
    | [] => true
    | _ => false
  | sc, raw, e :: es, x => match x with
    | y :: ys => ckE c sc raw e y && ckEs c sc raw es ys
    | _ => false
def ckTs (c : Cfg) : Scope → Scope → List T → List Expr → Bool
  | _, _, [], x => match x with
    | [] => true
    | _ => false
  | sc, raw, e :: es, x => match x with
    | y :: ys => ckT c sc raw e y && ckTs c sc raw es ys
    | _ => false
/-- the tests of a clause: one at most -/
def ckT1 (c : Cfg) : Scope → Scope → List T → List Expr → Bool
  | _, _, [], x => match x with
    | [] => true
    | _ => false
  | sc, raw, e :: es, x => match x with
    | [y] => ckT c sc raw e y && es.isEmpty
    | _ => false
def ckKv (c : Cfg) : Scope → Scope → List E → List (Option Expr) → List Expr → Bool
  | _, _, [], ks, vs => ks.isEmpty && vs.isEmpty
  | _, _, [_], _, _ => false
  | sc, raw, k :: v :: r, ks, vs => match ks, vs with
    | some x :: ks, y :: vs => ckE c sc raw k x && ckE c sc raw v y && ckKv c sc raw r ks vs
    | _, _ => false
def ckKw (c : Cfg) : Scope → Scope → List E → List Keyword → Bool
  | _, _, [], kws => kws.isEmpty
  | sc, raw, e :: es, kws => match kws with
    | ⟨_, y, _⟩ :: ks => ckE c sc raw e y && ckKw c sc raw es ks
    | _ => false
def ckO (c : Cfg) : Scope → Scope → Option E → Option Expr → Bool
  | _, _, none, x => match x with
    | none => true
    | _ => false
  | sc, raw, some e, x => match x with
    | some y => ckE c sc raw e y
    | _ => false
end

/-- an exception class as it stands behind the top -/
structure XOkC (P : Program) (w : World) (K : PySem.W.Frag) (mg : Str → Option Value) (base : Heap) (k : Nat) (xi : XI) (C : Addr) : Prop where
  nm : mg xi.name = some (.ref C)
  ox : OexC K C
  fld : FldK K C xi.fs
  len : xi.fs.length ≤ 1000
  ini : ∃ fI fd ps, PySem.W.findIn K (.ref C) "__init__" = some (some (.ref fI)) ∧ PySem.W.typeIn K (.ref fI) = some (.type "function") ∧ FnOk P w K mg base (L2.CX P w) k fI fd ps (spIni C xi.fs) ∧ Binds K fd ps []
structure ExsOk (P : Program) (w : World) (K : PySem.W.Frag) (mg : Str → Option Value) (base : Heap) (eo : XK → XW) (c : CsT) (T : List (Addr × List Str)) : Prop where
  eo : eo = eoX T
  cls : ∀ (i : Nat) (xi : XI), c.x[i]? = some xi → ∃ C, T[i]? = some (C, xi.fs) ∧ XOkC P w K mg base 1 xi C
  hdl : ∀ p ∈ c.h, ∃ Ch, mg p.1 = some Ch ∧ HdK K T p.2 Ch
  grd : ∀ p ∈ c.g, ∃ CD, mg p.1 = some (.ref CD) ∧ ∀ k ∈ p.2, ∀ C ns, T[k]? = some (C, ns) → PySem.W.kitOne K (.ref C) (.ref CD) = some true
/-- where a text is read -/
structure COk (c : Cfg) (cf : CF) (eo : XK → XW) (X : Cx) (sc raw : Scope) (E : L2.St → XK) : Prop where
  hN : X.N = c.N
  nd : c.N.Nodup
  hsc : X.env.scope = sc
  kd : sc.kind = .function
  calm : X.calm = true
  room : ∃ k, Room k X.A
  room2 : Room 2 X.A
  asn : ∀ x, raw.names.lookup x = some .local ∨ raw.names.lookup x = some .cell → L2.Loc sc x ∧ (X.fn x = true ∨ sc.names.lookup x = some .local)
  hE : ∀ σ, PassesAt (L2.CX X.prog X.w) X σ (E σ)
  heo : EoOk eo
  fns : ∀ (i : Nat) (fi : FnI), c.fs[i]? = some fi → ∃ k f fd, Room k X.A ∧ X.mg fi.name = some (.ref f) ∧ PySem.W.keepIn X.K (.ref f) = true ∧ FnOk X.prog X.w X.K X.mg X.base (L2.CX X.prog X.w) k f fd fi.ps (spOf (kf X) eo (cf i) fi.ps.length) ∧ Binds X.K fd fi.ps [] ∧
    ∀ kw ∈ fi.kws, KwB X.K fd fi.ps kw.1 kw.2
  blt : ∀ x ∈ c.bl, X.mg x = none
  exs : ∃ T, ExsOk X.prog X.w X.K X.mg X.base eo c.cs T
  cst : ∀ p ∈ c.cs.k, ∃ u w, X.mg p.1 = some u ∧ RelV w u ∧ (∀ B ρ H, Rel (kf X) B ρ H p.2 w) ∧ isL p.2 = false

section
variable {c : Cfg} {cf : CF} {eo : XK → XW} {X : Cx} {sc raw : Scope} {E : L2.St → XK}
theorem lk_ok {x : Str} {k : NameKind} (h : lk sc x k = true) : sc.names.lookup x = some k := of_decide_eq_true h
theorem COk.gl (o : COk c cf eo X sc raw E) {x : Str} (h : glb c sc x = true) : Gl X x ∧ X.mg x = none := by
  unfold glb at h
  rw [Bool.and_eq_true] at h
  refine ⟨?_, o.blt x (by simpa using h.2)⟩
  unfold Gl Env.kindOf
  rw [o.hsc]
  exact lk_ok h.1
theorem okNm_ok {x : Str} (h : okNm x = true) : (x == ("__debug__" : Str)) = false ∧ (x == ("__classdict__" : Str)) = false := by
  unfold okNm at h
  rw [Bool.and_eq_true] at h
  exact ⟨by simpa using h.1, by simpa using h.2⟩
theorem COk.var (o : COk c cf eo X sc raw E) {xw : L2.St → XW} {i : Nat} {x : Str} {p : Pos} (h : vis c sc i x = true) : PE X (.Name x p) (dn (kf X) xw (evE cf (.var i)) false) := by
  unfold vis at h
  rw [Bool.and_eq_true, Bool.and_eq_true, Bool.or_eq_true, Bool.or_eq_true] at h
  obtain ⟨⟨h1, h2⟩, h3⟩ := h
  obtain ⟨h4, h5⟩ := okNm_ok h3
  refine d_var (pe_var (by rw [o.hN]; exact of_decide_eq_true h1) ?_ h4 h5)
  rw [o.hsc]
  rcases h2 with (h2 | h2) | h2
  · exact .inl (lk_ok h2)
  · exact .inr (.inl (lk_ok h2))
  · exact .inr (.inr (lk_ok h2))
theorem COk.asn1 (o : COk c cf eo X sc raw E) {i : Nat} {x : Str} {p : Pos} (h : asnB c raw i x = true) : PG X (.Name x p) (gName i) := by
  unfold asnB at h
  rw [Bool.and_eq_true, Bool.or_eq_true] at h
  obtain ⟨h1, h2⟩ := h
  obtain ⟨h3, h4⟩ := o.asn x (h2.imp lk_ok lk_ok)
  exact pg_name (by rw [o.hN]; exact o.nd) (by rw [o.hN]; exact of_decide_eq_true h1) (by rw [o.hsc]; exact h3) (by rw [o.hsc]; exact h4)
theorem COk.asns (o : COk c cf eo X sc raw E) : ∀ {is : List Nat} {es : List Expr}, ckNs c raw is es = true → PGs X es (gNames is) ∧ (assignEach es X.env).length = is.length ∧ (assignEach es X.env).findIdx? (·.1) = none
  | [], es, h => by
    cases es with
    | nil => exact ⟨pgs_nil, rfl, rfl⟩
    | cons e es => simp [ckNs] at h
  | i :: is, es, h => by
    cases es with
    | nil => simp [ckNs] at h
    | cons e es =>
      cases e <;> try (simp [ckNs] at h)
      rename_i x p
      obtain ⟨h1, h2⟩ := h
      obtain ⟨g, hl, hf⟩ := o.asns h2
      refine ⟨pgs_cons (o.asn1 h1) g, ?_, ?_⟩
      · show (assignEach es X.env).length + 1 = _
        rw [hl]; rfl
      · show List.findIdx? (·.1) ((false, _) :: assignEach es X.env) = none
        rw [List.findIdx?_cons, hf]
        rfl
theorem COk.tg (o : COk c cf eo X sc raw E) {t : Tg} {e : Expr} (h : ckTg c raw t e = true) : PG X e (gT (kf X) t) := by
  cases t with
  | nm i =>
    cases e <;> try (simp [ckTg] at h)
    exact o.asn1 h
  | tp is =>
    cases e <;> try (simp [ckTg] at h)
    obtain ⟨g, hl, hf⟩ := o.asns h
    exact pg_tup o.calm g hl hf
theorem ownP_snd (N : List Str) : ∀ own : List Nat, (ownP N own).map (·.2) = own
  | [] => rfl
  | i :: own => by
    show i :: _ = i :: own
    exact congrArg (i :: ·) (ownP_snd N own)
theorem blkB_ok {N : List Str} {scope : Scope} {own : List (Str × Nat)} (h : blkB N sc scope own = true) : BlkOk N sc scope own := by
  unfold blkB at h
  simp only [Bool.and_eq_true, List.all_eq_true, decide_eq_true_eq, Bool.or_eq_true, Bool.not_eq_true', decide_eq_false_iff_not, lk, List.contains_iff_mem] at h
  obtain ⟨⟨⟨⟨h1, h2⟩, h3⟩, h4⟩, h5⟩ := h
  refine ⟨h1, h2, h3, fun y hy e => ?_, fun y hy e => ?_⟩
  · rcases h4 y hy with (q | q) | q
    · exact absurd e q
    · exact .inl q
    · exact .inr q
  · rcases h5 y hy with (q | q) | q
    · rcases e with e | e <;> simp [e] at q
    · exact .inl q
    · exact .inr (by simpa using q)
theorem COk.blk (o : COk c cf eo X sc raw E) {scope : Scope} {own : List (Str × Nat)} (ok : BlkOk c.N sc scope own) (s : Shared) (H : Hp) (C : Addr) (cl : List (Str × Addr)) (fp : List Addr) :
    COk c cf eo (X.blk s H scope (compEnvC scope cl C X.env) fp) (relS scope sc) scope (fun _ => E0) where
  hN := o.hN
  nd := o.nd
  hsc := by
    show relS scope X.env.scope = relS scope sc
    rw [o.hsc]
  kd := ok.kind
  calm := o.calm
  room := o.room
  room2 := o.room2
  asn := fun x h => by
    rcases h with h | h
    · have q := lookup_relS_keep (sc := sc) (by decide) h
      exact ⟨.inl q, .inr q⟩
    · have q := lookup_relS_keep (sc := sc) (by decide) h
      refine ⟨.inr q, .inl ?_⟩
      show (scope.names.lookup x == some .cell) = true
      rw [h]; rfl
  hE := fun σ pins H s e s' I h => passL pins σ H s e s' I h
  heo := o.heo
  fns := o.fns
  blt := o.blt
  exs := o.exs
  cst := o.cst
theorem noSet_ok {e : Expr} {env : Env} (h : noSet e = true) (x : Value) : foldedSetIterable e env x = pure x := by
  cases e <;> first | rfl | (cases h)
theorem plainT_ok {e : Expr} {env : Env} (h : plainT e = true) (w : Sem Value) : isTrue e env w = (do let v ← w; standAt e.pos; holding [v] (PySem.truthy v)) := by
  cases e <;> first | rfl | (cases h) | skip
  rename_i op _ _
  cases op <;> first | rfl | (cases h)
end
end Y

/-! K7b: what is checked is what is run: expressions -/
namespace Y
open PySem PySem.Spec PyProof.Rows L2

section
variable {cf : CF}
theorem evEs_len : ∀ (es : List E) (env : Ev) (h : Hh) (vs : List PV) (h' : Hh), evEs cf es env h = .ok vs h' → vs.length = es.length
  | [], env, h, vs, h', e => by
    have e : (R.ok [] h : R (List PV)) = .ok vs h' := e
    cases e; rfl
  | x :: es, env, h, vs, h', e => by
    have e : ((evE cf x env >>= fun v => (evEs cf es env >>= fun vs => pure (v :: vs))) h : R (List PV)) = .ok vs h' := e
    cases h1 : evE cf x env h with
    | err => rw [bind_err h1] at e; cases e
    | ex c fs h1' => rw [bind_ex h1] at e; cases e
    | ok v h1' =>
      rw [bind_ok h1] at e
      cases h2 : evEs cf es env h1' with
      | err => rw [bind_err h2] at e; cases e
      | ex c fs h1' => rw [bind_ex h2] at e; cases e
      | ok ws h2' =>
        rw [bind_ok h2] at e
        cases e
        simp [evEs_len es env _ ws _ h2]
end
theorem isTp_ok {tg : Expr} : isTp tg = true → ∃ es k p, tg = .Tuple es k p := by
  intro h
  cases tg <;> first | exact ⟨_, _, _, rfl⟩ | (cases h)
theorem PT.mono' {X : Cx} {e : Expr} {t t' : TT} (p : PT X e t) (h : ∀ σ H Q, t' σ H Q → t σ H Q) : PT X e t' := PT.mono p h
section
variable {c : Cfg} {cf : CF} {eo : XK → XW}
theorem ckEs_len {c : Cfg} {sc raw : Scope} : ∀ (es : List E) (xs : List Expr), ckEs c sc raw es xs = true → es.length = xs.length
  | [], xs, h => by
    cases xs with
    | nil => rfl
    | cons => simp [ckEs] at h
  | e :: es, xs, h => by
    cases xs with
    | nil => simp [ckEs] at h
    | cons x xs =>
      simp only [ckEs, Bool.and_eq_true] at h
      simp [ckEs_len es xs h.2]
theorem ckKw_len {c : Cfg} {sc raw : Scope} : ∀ (es : List E) (xs : List Keyword), ckKw c sc raw es xs = true → kwAll xs = true → es.length = (kwNames xs).length
  | [], xs, h, _ => by
    cases xs with
    | nil => rfl
    | cons => simp [ckKw] at h
  | e :: es, xs, h, ha => by
    cases xs with
    | nil => simp [ckKw] at h
    | cons x xs =>
      obtain ⟨n, y, p⟩ := x
      simp only [ckKw, Bool.and_eq_true] at h
      unfold kwAll at ha
      rw [List.all_cons, Bool.and_eq_true] at ha
      cases n with
      | none => exact absurd ha.1 (by simp)
      | some n =>
        have := ckKw_len es xs h.2 ha.2
        simp [this, kwNames]
theorem ckKv_len {c : Cfg} {sc raw : Scope} : ∀ (es : List E) (ks : List (Option Expr)) (vs : List Expr), ckKv c sc raw es ks vs = true → es.length = 2 * ks.length ∧ ks.length = vs.length ∧ ks.all (·.isSome) = true
  | [], ks, vs, h => by
    simp only [ckKv, Bool.and_eq_true, List.isEmpty_iff] at h
    obtain ⟨rfl, rfl⟩ := h
    exact ⟨rfl, rfl, rfl⟩
  | [_], ks, vs, h => by simp [ckKv] at h
  | k :: v :: r, ks, vs, h => by
    unfold ckKv at h
    split at h <;> try contradiction
    rename_i x ks y vs
    simp only [Bool.and_eq_true] at h
    obtain ⟨h1, h2, h3⟩ := ckKv_len r ks vs h.2
    exact ⟨by simp [h1]; omega, by simp [h2], by simp only [List.all_cons, h3]; rfl⟩
theorem tests1 {X : Cx} {xw : L2.St → XW} {e : Expr} {m : Ev → M Bool} (h : PT X e (dnB (kf X) xw m)) : PTs X [e] (dnB (kf X) xw (fun env => do let b ← m env; if b then pure true else pure false)) :=
  PTs.mono (pts_one h) fun σ H Q ⟨B, ρ, h, env, s, er, q⟩ => dnB_seq s er q fun x h1 ρ1 H1 e1 s1 er1 q => by
    cases x with
    | true => exact Post.pure q s1
    | false => exact Post.pure q s1
theorem tests0 {X : Cx} {xw : L2.St → XW} : PTs X [] (dnB (kf X) xw (fun _ => pure true)) :=
  PTs.mono pts_nil fun σ H Q ⟨B, ρ, h, env, s, er, q⟩ => Post.pure q s
theorem dn_weak {X : Cx} {xw : L2.St → XW} {e : Expr} {m : Ev → M PV} {fr : Bool} (h : PE X e (dn (kf X) xw m fr)) : PE X e (dn (kf X) xw m false) :=
  PE.mono h fun σ H Q ⟨B, ρ, h, env, s, er, q⟩ => ⟨B, ρ, h, env, s, er, q.imp fun p h1 ρ1 H1 e1 s1 q v r _ => q v r (fun a => by cases a)⟩
theorem box_e {X : Cx} {xw : L2.St → XW} {e : Expr} {m : Ev → M PV} {fr : Bool} (h : PE X e (dn (kf X) xw m fr)) (hf : fr = true) : PE X e (dn (kf X) xw (fun env => do let v ← m env; boxM v) false) := by
  subst hf
  exact d_box h
/-- the walk lays pairs -/
def pyI : I → Bool
  | .enum _ => true
  | .etxt _ => true
  | .zip _ _ => true
  | _ => false
theorem pyI_tp {c : Cfg} {sc raw : Scope} {tp : Bool} {i : I} {x : Expr} (h : ckI c sc raw tp i x = true) (hp : pyI i = true) : tp = true := by
  cases i <;> simp only [pyI] at hp <;> try contradiction
  · unfold ckI at h; split at h <;> try contradiction
    simp only [Bool.and_eq_true] at h
    exact h.1.1.1.1
  · unfold ckI at h; split at h <;> try contradiction
    simp only [Bool.and_eq_true] at h
    exact h.1.1.1.1.1.1
  · unfold ckI at h; split at h <;> try contradiction
    simp only [Bool.and_eq_true] at h
    exact h.1.1.1.1
theorem tp_ok {c : Cfg} {raw : Scope} {t : Tg} {tg : Expr} (h : ckTg c raw t tg = true) (hp : isTp tg = true) : isTpT t = true := by
  cases t with
  | nm i => cases tg <;> first | (simp [ckTg] at h; done) | (simp [isTp] at hp; done)
  | tp is => rfl
set_option maxHeartbeats 2000000
mutual
theorem okE : ∀ (e : E) {X : Cx} {sc raw : Scope} {E0 : L2.St → XK} (o : COk c cf eo X sc raw E0) (x : Expr), ckE c sc raw e x = true → PE X x (dn (kf X) (fun σ => eo (E0 σ)) (evE cf e) (frE e))
  | .var i, X, sc, raw, E0, o, x, h => by
    unfold ckE at h; split at h <;> try contradiction
    exact o.var h
  | .non, X, sc, raw, E0, o, x, h => by
    unfold ckE at h; split at h <;> try contradiction
    exact d_const (c := .non) pe_non (fun _ _ _ => Rel.non_mk) rfl
  | .bl b, X, sc, raw, E0, o, x, h => by
    unfold ckE at h; split at h <;> try contradiction
    cases of_decide_eq_true h
    exact d_const (c := .bl b) pe_bl (fun _ _ _ => Rel.bl_mk) rfl
  | .int b, X, sc, raw, E0, o, x, h => by
    unfold ckE at h; split at h <;> try contradiction
    cases of_decide_eq_true h
    exact d_const (c := .int b) pe_int (fun _ _ _ => Rel.int_mk) rfl
  | .str b, X, sc, raw, E0, o, x, h => by
    unfold ckE at h; split at h <;> try contradiction
    cases of_decide_eq_true h
    exact d_const (c := .str b) pe_str (fun _ _ _ => Rel.str_mk) rfl
  | .tup es, X, sc, raw, E0, o, x, h => by
    unfold ckE at h; split at h <;> try contradiction
    simp only [Bool.and_eq_true, decide_eq_true_eq] at h
    exact d_tup (okEs es o _ h.1.1 h.2) fun env h0 vs h' e => by rw [evEs_len es env h0 vs h' e]; have : SZ = 16777216 := rfl; omega
  | .lst es, X, sc, raw, E0, o, x, h => by
    unfold ckE at h; split at h <;> try contradiction
    simp only [Bool.and_eq_true, decide_eq_true_eq] at h
    exact d_lst (okEs es o _ h.1.1 h.2) fun env h0 vs h' e => by rw [evEs_len es env h0 vs h' e]; have : SZ = 16777216 := rfl; omega
  | .dct kvs, X, sc, raw, E0, o, x, h => by
    unfold ckE at h; split at h <;> try contradiction
    rename_i ks vs p
    simp only [Bool.and_eq_true, decide_eq_true_eq] at h
    obtain ⟨h1, h2, h3⟩ := ckKv_len kvs ks vs h.1
    by_cases h0 : ks = []
    · subst h0
      have : vs = [] := List.eq_nil_of_length_eq_zero h2.symm
      subst this
      have : kvs = [] := List.eq_nil_of_length_eq_zero h1
      subst this
      exact d_dnew
    · exact d_disp (okKv kvs o ks vs h.1) h3 h2 h0 h.2 fun env h0 vs h' e => by rw [evEs_len kvs env h0 vs h' e]; exact h1
  | .box e, X, sc, raw, E0, o, x, h => by
    unfold ckE at h
    rw [Bool.and_eq_true] at h
    exact box_e (okE e o x h.1) h.2
  | .bin op a b, X, sc, raw, E0, o, x, h => by
    unfold ckE at h; split at h <;> try contradiction
    simp only [Bool.and_eq_true, decide_eq_true_eq] at h
    obtain ⟨⟨rfl, h1⟩, h2⟩ := h
    exact d_bin (okE a o _ h1) (okE b o _ h2)
  | .neg a, X, sc, raw, E0, o, x, h => by
    unfold ckE at h; split at h <;> try contradiction
    exact d_neg (okE a o _ h)
  | .cmp op a b, X, sc, raw, E0, o, x, h => by
    unfold ckE at h; split at h <;> try contradiction
    simp only [Bool.and_eq_true, decide_eq_true_eq, Bool.not_eq_true'] at h
    obtain ⟨⟨⟨rfl, h1⟩, h2⟩, h3⟩ := h
    exact d_cmp o.room (okE a o _ h1) (okE b o _ h2) h3
  | .chain op op' a b d, X, sc, raw, E0, o, x, h => by
    unfold ckE at h; split at h <;> try contradiction
    simp only [Bool.and_eq_true, decide_eq_true_eq, Bool.not_eq_true'] at h
    obtain ⟨⟨⟨⟨⟨rfl, rfl⟩, h1⟩, h2⟩, h3⟩, h4⟩ := h
    exact d_chain o.room (okE a o _ h1) (okE b o _ h2) (okE d o _ h3) h4
  | .boo isAnd es, X, sc, raw, E0, o, x, h => by
    unfold ckE at h; split at h <;> try contradiction
    simp only [Bool.and_eq_true, decide_eq_true_eq] at h
    obtain ⟨⟨rfl, h1⟩, h2⟩ := h
    exact okB isAnd es o _ _ h1 (by simpa using h2)
  | .not a, X, sc, raw, E0, o, x, h => by
    unfold ckE at h; split at h <;> try contradiction
    exact d_not (okE a o _ h)
  | .ite t a b, X, sc, raw, E0, o, x, h => by
    unfold ckE at h; split at h <;> try contradiction
    simp only [Bool.and_eq_true] at h
    exact d_ite (okT t o _ h.1.1) (okE a o _ h.1.2) (okE b o _ h.2)
  | .ix a b, X, sc, raw, E0, o, x, h => by
    unfold ckE at h; split at h <;> try contradiction
    simp only [Bool.and_eq_true] at h
    exact d_ix o.room (okE a o _ h.1.1) (okE b o _ h.1.2) (plain_ix h.2)
  | .sl a lo hi, X, sc, raw, E0, o, x, h => by
    unfold ckE at h; split at h <;> try contradiction
    simp only [Bool.and_eq_true] at h
    exact d_sl (okE a o _ h.1.1) (okO lo o _ h.1.2) (okO hi o _ h.2)
  | .rev a, X, sc, raw, E0, o, x, h => by
    unfold ckE at h; split at h <;> try contradiction
    exact d_rev (okE a o _ h)
  | .bi b es, X, sc, raw, E0, o, x, h => by
    unfold ckE at h; split at h <;> try contradiction
    rename_i n p xs q
    simp only [Bool.and_eq_true, decide_eq_true_eq] at h
    obtain ⟨⟨⟨⟨rfl, h1⟩, h2⟩, h3⟩, h4⟩ := h
    obtain ⟨g1, g2⟩ := o.gl h1
    cases xs with
    | nil =>
      have := ckEs_len es [] h2
      simp at this
      subst this
      simp at h4
    | cons y ys => exact d_bi o.room o.calm g1 g2 (okEs es o _ h2 h3) h3
  | .isi a t, X, sc, raw, E0, o, x, h => by
    unfold ckE at h; split at h <;> try contradiction
    simp only [Bool.and_eq_true, decide_eq_true_eq] at h
    obtain ⟨⟨⟨⟨⟨rfl, rfl⟩, h1⟩, h2⟩, h3⟩, h4⟩ := h
    obtain ⟨g1, g2⟩ := o.gl h1
    obtain ⟨g3, g4⟩ := o.gl h2
    exact d_isi g1 g2 g3 g4 (okE a o _ h3) h4
  | .mt m e es, X, sc, raw, E0, o, x, h => by
    unfold ckE at h; split at h <;> try contradiction
    rename_i y n ap xs cp
    simp only [Bool.and_eq_true, decide_eq_true_eq] at h
    obtain ⟨⟨⟨⟨⟨⟨rfl, h1⟩, h2⟩, h3⟩, h4⟩, h5⟩, h6⟩ := h
    have hl := ckEs_len es xs h5
    have he := okE e o y h1
    have key : (m = .append ∨ m = .extend ∨ m = .pop1 ∨ m = .insert) → (!es.isEmpty && decide (es.length < 30)) = true → PE X (.Call (.Attribute y (mtNm m) ap) xs [] cp) (dn (kf X) (fun σ => eo (E0 σ)) (evE cf (.mt m e es)) (frE (.mt m e es))) := by
      intro hm h6
      rw [Bool.and_eq_true, decide_eq_true_eq] at h6
      cases xs with
      | nil =>
        simp at hl
        subst hl
        simp at h6
      | cons z zs => exact d_mtL hm he (okEs es o _ h5 h4) h4 h2 (by rw [← hl]; exact h6.2) h3
    have one : es.length = 1 → ∃ e1 z, es = [e1] ∧ xs = [z] := by
      intro h1
      rw [h1] at hl
      obtain ⟨z, rfl⟩ := List.length_eq_one_iff.mp hl.symm
      obtain ⟨e1, rfl⟩ := List.length_eq_one_iff.mp h1
      exact ⟨e1, z, rfl, rfl⟩
    cases m with
    | append => exact key (by simp) h6
    | extend => exact key (by simp) h6
    | pop1 => exact key (by simp) h6
    | insert => exact key (by simp) h6
    | index =>
      have h6 : es.length = 1 := by simpa using h6
      cases es with
      | nil => simp at h6
      | cons e1 es =>
        cases es with
        | cons => simp at h6
        | nil =>
          cases xs with
          | nil => simp at hl
          | cons z zs =>
            cases zs with
            | cons => simp at hl
            | nil =>
              have h5 : ckE c sc raw e1 z = true := by
                simp only [ckEs, Bool.and_eq_true] at h5
                exact h5.1
              exact d_index o.room he (okE e1 o z h5) (by simpa using h4) h2 h3
    | pop0 =>
      have : es = [] := by simpa using h6
      subst this
      have : xs = [] := List.eq_nil_of_length_eq_zero hl.symm
      subst this
      exact d_pop0 he h2 h3
    | join =>
      have h6 : es.length = 1 := by simpa using h6
      cases es with
      | nil => simp at h6
      | cons e1 es =>
        cases es with
        | cons => simp at h6
        | nil =>
          cases xs with
          | nil => simp at hl
          | cons z zs =>
            cases zs with
            | cons => simp at hl
            | nil =>
              have h5 : ckE c sc raw e1 z = true := by
                simp only [ckEs, Bool.and_eq_true] at h5
                exact h5.1
              exact d_join he (okE e1 o z h5) (by simpa using h4) h2 h3
    | get1 =>
      have h6 : es.length = 1 := by simpa using h6
      cases es with
      | nil => simp at h6
      | cons e1 es =>
        cases es with
        | cons => simp at h6
        | nil =>
          cases xs with
          | nil => simp at hl
          | cons z zs =>
            cases zs with
            | cons => simp at hl
            | nil =>
              have h5 : ckE c sc raw e1 z = true := by
                simp only [ckEs, Bool.and_eq_true] at h5
                exact h5.1
              exact d_get1 o.room he (okE e1 o z h5) (by simpa using h4) h2 h3
  | .call r f es, X, sc, raw, E0, o, x, h => by
    unfold ckE at h; split at h <;> try contradiction
    rename_i n p xs q
    split at h <;> try contradiction
    rename_i fi hfi
    simp only [Bool.and_eq_true, decide_eq_true_eq] at h
    obtain ⟨⟨⟨⟨⟨rfl, h1⟩, h2⟩, h3⟩, h4⟩, h5⟩ := h
    obtain ⟨k, fa, fd, hr, hm, hk, F, hb, hkw⟩ := o.fns f fi hfi
    have hg : Gl X fi.name := by
      unfold Gl Env.kindOf
      rw [o.hsc]
      exact lk_ok h1
    have hl := ckEs_len es xs h3
    cases xs with
    | nil =>
      have : es = [] := List.eq_nil_of_length_eq_zero hl
      subst this
      exact d_call0 o.heo F hr hg hm hk hb o.hE (okNm_ok h2).1 h5.symm
    | cons y ys => exact d_call o.heo F hr hg hm hk hb o.hE (okEs es o _ h3 h4) (okNm_ok h2).1 h4 (by rw [← hl]; exact h5) fun env h0 vs h' e => by rw [evEs_len es env h0 vs h' e]; exact hl
  | .callk r f perm es, X, sc, raw, E0, o, x, h => by
    unfold ckE at h; split at h <;> try contradiction
    rename_i n p kws q
    split at h <;> try contradiction
    rename_i fi hfi
    simp only [Bool.and_eq_true, decide_eq_true_eq] at h
    obtain ⟨⟨⟨⟨⟨⟨rfl, h1⟩, h2⟩, h3⟩, h4⟩, h5⟩, h6⟩ := h
    obtain ⟨k, fa, fd, hr, hm, hk, F, hb, hkw⟩ := o.fns f fi hfi
    have hg : Gl X fi.name := by
      unfold Gl Env.kindOf
      rw [o.hsc]
      exact lk_ok h1
    exact d_callk o.heo F hr hg hm hk (hkw _ (by simpa using h5)) o.hE (okKw es o kws h3) (okNm_ok h2).1 h4 rfl h6 fun env h0 vs h' e => by rw [evEs_len es env h0 vs h' e]; exact ckKw_len es kws h3 h4
  | .lset a, X, sc, raw, E0, o, x, h => by
    unfold ckE at h; split at h <;> try contradiction
    simp only [Bool.and_eq_true, decide_eq_true_eq] at h
    obtain ⟨⟨⟨⟨⟨rfl, rfl⟩, h1⟩, h2⟩, h3⟩, h4⟩ := h
    obtain ⟨g1, g2⟩ := o.gl h1
    obtain ⟨g3, g4⟩ := o.gl h2
    exact d_lset o.calm g1 g2 g3 g4 (star_one h3) (okE a o _ h4)
  | .lrng1 isT a, X, sc, raw, E0, o, x, h => by
    unfold ckE at h; split at h <;> try contradiction
    simp only [Bool.and_eq_true, decide_eq_true_eq] at h
    obtain ⟨⟨⟨⟨⟨rfl, rfl⟩, h1⟩, h2⟩, h3⟩, h4⟩ := h
    obtain ⟨g1, g2⟩ := o.gl h1
    obtain ⟨g3, g4⟩ := o.gl h2
    exact d_lrng1 o.calm g3 g4 g1 g2 (star_one h3) (okE a o _ h4)
  | .lrng2 isT a b, X, sc, raw, E0, o, x, h => by
    unfold ckE at h; split at h <;> try contradiction
    simp only [Bool.and_eq_true, decide_eq_true_eq] at h
    obtain ⟨⟨⟨⟨⟨⟨⟨rfl, rfl⟩, h1⟩, h2⟩, h3⟩, h3'⟩, h4⟩, h5⟩ := h
    obtain ⟨g1, g2⟩ := o.gl h1
    obtain ⟨g3, g4⟩ := o.gl h2
    exact d_lrng2 o.calm g3 g4 g1 g2 (star_one h3) (star_one h3') (okE a o _ h4) (okE b o _ h5)
  | .comp1 t it ifs elt own, X, sc, raw, E0, o, x, h => by
    unfold ckE at h; split at h <;> try contradiction
    rename_i y tg iter ifs' k scope p
    simp only [Bool.and_eq_true, decide_eq_true_eq] at h
    obtain ⟨⟨⟨⟨⟨⟨⟨rfl, h1⟩, h2⟩, h3⟩, h4⟩, h5⟩, h6⟩, h7⟩ := h
    have bo := blkB_ok h1
    have bo' : BlkOk X.N X.env.scope scope (ownP c.N own) := by rw [o.hN, o.hsc]; exact bo
    have key := d_comp1 (X := X) (xw := fun σ => eo (E0 σ)) (xc0 := eo L2.E0) (py := pyI it) (own := ownP c.N own) (pos := p) (me := evE cf elt) (mf := evB1 cf ifs) (fr := frE elt) o.calm (by rw [o.hN]; exact o.nd) bo' (by rw [ownP_snd]; simpa using h3) (fun hp => tp_ok h2 (pyI_tp h4 hp)) (okI it o tg iter h4 isTp_ok)
      (fun s H C cl fp => (o.blk bo s H C cl fp).tg h2) (fun s H C cl fp => ok1 ifs (o.blk bo s H C cl fp) ifs' h5) (fun s H C cl fp => okE elt (o.blk bo s H C cl fp) y h6) (noSet_ok h7)
    rw [ownP_snd] at key
    exact key
  | .lrng3 isT a b d, X, sc, raw, E0, o, x, h => by
    unfold ckE at h; split at h <;> try contradiction
    rename_i n p1 n2 p2 y z w p3 p4
    simp only [Bool.and_eq_true, decide_eq_true_eq] at h
    obtain ⟨⟨⟨⟨⟨⟨⟨⟨⟨⟨rfl, rfl⟩, rfl⟩, h1⟩, h2⟩, h3⟩, h3'⟩, h3''⟩, h4⟩, h5⟩, h6⟩ := h
    obtain ⟨g1, g2⟩ := o.gl h1
    obtain ⟨g3, g4⟩ := o.gl h2
    exact d_lrng3 o.calm g3 g4 g1 g2 (star_one h3) (star_one h3') (star_one h3'') (star_none (by simp [h3', h3''])) (star_one rfl) (okE a o _ h4) (okE b o _ h5) (okE d o _ h6)
  | .cst n v, X, sc, raw, E0, o, x, h => by
    unfold ckE at h; split at h <;> try contradiction
    simp only [Bool.and_eq_true, decide_eq_true_eq, List.any_eq_true] at h
    obtain ⟨⟨⟨rfl, q, hq, rfl, rfl⟩, h2⟩, h3⟩ := h
    obtain ⟨u, w, hm, rv, rl, nl⟩ := o.cst q hq
    have hg : Gl X q.1 := by
      unfold Gl Env.kindOf
      rw [o.hsc]
      exact lk_ok h2
    exact d_const (c := q.2) (pe_glob hg hm rv (okNm_ok h3).1) (fun B ρ H => rl B ρ H) nl
  | .comp2 t it ifs t1 it1 ifs1 elt own own1, X, sc, raw, E0, o, x, h => by
    unfold ckE at h; split at h <;> try contradiction
    rename_i y tg iter ifs' k tg1 iter1 ifs1' k1 scope p
    simp only [Bool.and_eq_true, decide_eq_true_eq] at h
    obtain ⟨⟨⟨⟨⟨⟨⟨⟨⟨⟨⟨⟨⟨⟨rfl, rfl⟩, h1⟩, h2⟩, h3⟩, h4⟩, h5⟩, h6⟩, h7⟩, h8⟩, h9⟩, h10⟩, h11⟩, h12⟩, h13⟩ := h
    have bo := blkB_ok h1
    have bo' : BlkOk X.N X.env.scope scope (ownP c.N own) := by rw [o.hN, o.hsc]; exact bo
    have key := d_comp2 (X := X) (xw := fun σ => eo (E0 σ)) (xc0 := eo L2.E0) (py := pyI it) (py1 := pyI it1) (own := ownP c.N own) (vs1 := own1) (pos := p) (me := evE cf elt) (mf := evB1 cf ifs) (mf1 := evB1 cf ifs1) (fr := frE elt) o.calm (by rw [o.hN]; exact o.nd) bo'
      (by rw [ownP_snd]; simpa using h8) (by rw [ownP_snd]; simpa using h3) (by simpa using h7) (fun hp => tp_ok h2 (pyI_tp h4 hp)) (fun hp => tp_ok h6 (pyI_tp h9 hp)) (okI it o tg iter h4 isTp_ok)
      (fun s H C cl fp => (o.blk bo s H C cl fp).tg h2) (fun s H C cl fp => ok1 ifs (o.blk bo s H C cl fp) ifs' h5)
      (fun s H C cl fp => okI it1 (o.blk bo s H C cl fp) tg1 iter1 h9 isTp_ok) (fun s H C cl fp => (o.blk bo s H C cl fp).tg h6) (fun s H C cl fp => ok1 ifs1 (o.blk bo s H C cl fp) ifs1' h10) (fun s H C cl fp => okE elt (o.blk bo s H C cl fp) y h11) (noSet_ok h12) (fun _ => noSet_ok h13)
    rw [ownP_snd] at key
    exact key
  | .get2 a k z, X, sc, raw, E0, o, x, h => by
    unfold ckE at h; split at h <;> try contradiction
    simp only [Bool.and_eq_true, decide_eq_true_eq] at h
    obtain ⟨⟨⟨⟨⟨⟨⟨rfl, h1⟩, h2⟩, h3⟩, h4⟩, h5⟩, h6⟩, h7⟩ := h
    exact d_get2 o.room (okE a o _ h1) (okE k o _ h2) (okE z o _ h3) h6 h7 h4 h5
  | .dcomp t it ifs kx vx own, X, sc, raw, E0, o, x, h => by
    unfold ckE at h; split at h <;> try contradiction
    rename_i y z tg iter ifs' k scope p
    simp only [Bool.and_eq_true, decide_eq_true_eq] at h
    obtain ⟨⟨⟨⟨⟨⟨⟨⟨rfl, h1⟩, h2⟩, h3⟩, h4⟩, h5⟩, h6⟩, h6'⟩, h7⟩ := h
    have bo := blkB_ok h1
    have bo' : BlkOk X.N X.env.scope scope (ownP c.N own) := by rw [o.hN, o.hsc]; exact bo
    have key := d_dcomp (X := X) (xw := fun σ => eo (E0 σ)) (xc0 := eo L2.E0) (py := pyI it) (own := ownP c.N own) (pos := p) (mk := evE cf kx) (mv := evE cf vx) (mf := evB1 cf ifs) (fk := frE kx) (fv := frE vx) o.calm (by rw [o.hN]; exact o.nd) bo' (by rw [ownP_snd]; simpa using h3) (fun hp => tp_ok h2 (pyI_tp h4 hp)) (okI it o tg iter h4 isTp_ok)
      (fun s H C cl fp => (o.blk bo s H C cl fp).tg h2) (fun s H C cl fp => ok1 ifs (o.blk bo s H C cl fp) ifs' h5) (fun s H C cl fp => okE kx (o.blk bo s H C cl fp) y h6) (fun s H C cl fp => okE vx (o.blk bo s H C cl fp) z h6') (noSet_ok h7)
    rw [ownP_snd] at key
    exact key
theorem okI : ∀ (i : I) {X : Cx} {sc raw : Scope} {E0 : L2.St → XK} (o : COk c cf eo X sc raw E0) {tp : Bool} (tg x : Expr), ckI c sc raw tp i x = true → (tp = true → ∃ es k p, tg = .Tuple es k p) → PI X tg x (dnI (kf X) (fun σ => eo (E0 σ)) (pyI i) (evI cf i))
  | .seq e, X, sc, raw, E0, o, tp, tg, x, h, ht => by
    unfold ckI at h
    exact d_iseq (okE e o x h)
  | .txt e, X, sc, raw, E0, o, tp, tg, x, h, ht => by
    unfold ckI at h
    exact d_itxt (okE e o x h)
  | .rng1 a, X, sc, raw, E0, o, tp, tg, x, h, ht => by
    unfold ckI at h; split at h <;> try contradiction
    simp only [Bool.and_eq_true, decide_eq_true_eq] at h
    obtain ⟨⟨⟨rfl, h1⟩, h2⟩, h3⟩ := h
    obtain ⟨g1, g2⟩ := o.gl h1
    exact d_irng1 g1 g2 (star_one h2) (okE a o _ h3)
  | .rng2 a b, X, sc, raw, E0, o, tp, tg, x, h, ht => by
    unfold ckI at h; split at h <;> try contradiction
    simp only [Bool.and_eq_true, decide_eq_true_eq] at h
    obtain ⟨⟨⟨⟨⟨rfl, h1⟩, h2⟩, h2'⟩, h3⟩, h4⟩ := h
    obtain ⟨g1, g2⟩ := o.gl h1
    exact d_irng2 g1 g2 (by rw [star_one h2, star_one h2']; rfl) (star_one h2') (okE a o _ h3) (okE b o _ h4)
  | .rng3 a b d, X, sc, raw, E0, o, tp, tg, x, h, ht => by
    unfold ckI at h; split at h <;> try contradiction
    simp only [Bool.and_eq_true, decide_eq_true_eq] at h
    obtain ⟨⟨⟨⟨⟨⟨⟨rfl, h1⟩, h2⟩, h2'⟩, h2''⟩, h3⟩, h4⟩, h5⟩ := h
    obtain ⟨g1, g2⟩ := o.gl h1
    exact d_irng3 g1 g2 (star_one h2) (star_one h2') (star_one h2'') (star_none (by simp [h2', h2''])) (okE a o _ h3) (okE b o _ h4) (okE d o _ h5)
  | .enum e, X, sc, raw, E0, o, tp, tg, x, h, ht => by
    unfold ckI at h; split at h <;> try contradiction
    simp only [Bool.and_eq_true, decide_eq_true_eq] at h
    obtain ⟨⟨⟨⟨h0, rfl⟩, h1⟩, h2⟩, h3⟩ := h
    obtain ⟨es, k, p, rfl⟩ := ht h0
    obtain ⟨g1, g2⟩ := o.gl h1
    exact d_ienum g1 g2 (star_one h2) (okE e o _ h3)
  | .etxt e, X, sc, raw, E0, o, tp, tg, x, h, ht => by
    unfold ckI at h; split at h <;> try contradiction
    simp only [Bool.and_eq_true, decide_eq_true_eq] at h
    obtain ⟨⟨⟨⟨h0, rfl⟩, h1⟩, h2⟩, h3⟩ := h
    obtain ⟨es, k, p, rfl⟩ := ht h0
    obtain ⟨g1, g2⟩ := o.gl h1
    exact d_ietxt g1 g2 (star_one h2) (okE e o _ h3)
  | .zip a b, X, sc, raw, E0, o, tp, tg, x, h, ht => by
    unfold ckI at h; split at h <;> try contradiction
    simp only [Bool.and_eq_true, decide_eq_true_eq] at h
    obtain ⟨⟨⟨⟨⟨⟨rfl, rfl⟩, h1⟩, h2⟩, h3⟩, h4⟩, h5⟩ := h
    obtain ⟨es, k, p, rfl⟩ := ht rfl
    obtain ⟨g1, g2⟩ := o.gl h1
    exact d_izip g1 g2 (star_one h2) (star_one h3) (star_none (by simp [h3])) (okE a o _ h4) (okE b o _ h5)
theorem okT : ∀ (t : T) {X : Cx} {sc raw : Scope} {E0 : L2.St → XK} (o : COk c cf eo X sc raw E0) (x : Expr), ckT c sc raw t x = true → PT X x (dnB (kf X) (fun σ => eo (E0 σ)) (evT cf t))
  | .boo isAnd es, X, sc, raw, E0, o, x, h => by
    unfold ckT at h; split at h <;> try contradiction
    simp only [Bool.and_eq_true, decide_eq_true_eq] at h
    obtain ⟨⟨rfl, h1⟩, h2⟩ := h
    exact (okBT isAnd es o _ _ h1 (by simpa using h2)).pt
  | .not a, X, sc, raw, E0, o, x, h => by
    unfold ckT at h; split at h <;> try contradiction
    exact dt_not (okT a o _ h)
  | .ite .., X, sc, raw, E0, o, x, h => by
    unfold ckT at h; contradiction
  | .val e, X, sc, raw, E0, o, x, h => by
    unfold ckT at h
    split at h
    · rw [Bool.and_eq_true] at h
      obtain ⟨h1, h2⟩ := h
      cases e <;> first | (simp at h1; done) | skip
      · rename_i op a b
        unfold ckE at h2; split at h2 <;> try contradiction
        rename_i hx
        cases hx
        simp only [Bool.and_eq_true, decide_eq_true_eq, Bool.not_eq_true'] at h2
        obtain ⟨⟨⟨rfl, h1⟩, h2⟩, h3⟩ := h2
        exact dt_cmp o.room (okE a o _ h1) (okE b o _ h2) h3
      · rename_i op op' a b d
        unfold ckE at h2; split at h2 <;> try contradiction
        rename_i hx
        cases hx
        simp only [Bool.and_eq_true, decide_eq_true_eq, Bool.not_eq_true'] at h2
        obtain ⟨⟨⟨⟨⟨rfl, rfl⟩, h1⟩, h2⟩, h3⟩, h4⟩ := h2
        exact dt_chain o.room (okE a o _ h1) (okE b o _ h2) (okE d o _ h3) h4
    · rw [Bool.and_eq_true] at h
      exact dt_val (okE e o x h.2) (plainT_ok h.1)
theorem okEs : ∀ (es : List E) {X : Cx} {sc raw : Scope} {E0 : L2.St → XK} (o : COk c cf eo X sc raw E0) (xs : List Expr), ckEs c sc raw es xs = true → xs.all noStar = true → PA X xs (dnL (kf X) (fun σ => eo (E0 σ)) (evEs cf es))
  | [], X, sc, raw, E0, o, xs, h, hs => by
    unfold ckEs at h; split at h <;> try contradiction
    exact d_nil
  | e :: es, X, sc, raw, E0, o, xs, h, hs => by
    unfold ckEs at h; split at h <;> try contradiction
    rw [Bool.and_eq_true] at h
    rw [List.all_cons, Bool.and_eq_true] at hs
    exact d_cons (okE e o _ h.1) (okEs es o _ h.2 hs.2) (star_one hs.1)
theorem okKw : ∀ (es : List E) {X : Cx} {sc raw : Scope} {E0 : L2.St → XK} (o : COk c cf eo X sc raw E0) (xs : List Keyword), ckKw c sc raw es xs = true → PK X xs (dnL (kf X) (fun σ => eo (E0 σ)) (evEs cf es))
  | [], X, sc, raw, E0, o, xs, h => by
    unfold ckKw at h
    have : xs = [] := by simpa using h
    subst this
    exact dk_nil
  | e :: es, X, sc, raw, E0, o, xs, h => by
    unfold ckKw at h; split at h <;> try contradiction
    rw [Bool.and_eq_true] at h
    exact dk_cons (okE e o _ h.1) (okKw es o _ h.2)
theorem okKv : ∀ (es : List E) {X : Cx} {sc raw : Scope} {E0 : L2.St → XK} (o : COk c cf eo X sc raw E0) (ks : List (Option Expr)) (vs : List Expr), ckKv c sc raw es ks vs = true → ∀ {pos : Pos}, DPs X (fun σ => eo (E0 σ)) pos ks vs (evEs cf es)
  | [], X, sc, raw, E0, o, ks, vs, h, pos => by
    simp only [ckKv, Bool.and_eq_true, List.isEmpty_iff] at h
    obtain ⟨rfl, rfl⟩ := h
    exact dp_nil
  | [_], X, sc, raw, E0, o, ks, vs, h, pos => by simp [ckKv] at h
  | k :: v :: r, X, sc, raw, E0, o, ks, vs, h, pos => by
    unfold ckKv at h
    split at h <;> try contradiction
    simp only [Bool.and_eq_true] at h
    exact dp_cons (okE k o _ h.1.1) (okE v o _ h.1.2) (okKv r o _ _ h.2)
theorem okB (a : Bool) : ∀ (es : List E) {X : Cx} {sc raw : Scope} {E0 : L2.St → XK} (o : COk c cf eo X sc raw E0) (xs : List Expr) (pos : Pos), ckEs c sc raw es xs = true → es ≠ [] → PE X (.BoolOp (boA a) xs pos) (dn (kf X) (fun σ => eo (E0 σ)) (evB cf a es) false)
  | [], X, sc, raw, E0, o, xs, pos, h, hn => absurd rfl hn
  | [e], X, sc, raw, E0, o, xs, pos, h, hn => by
    unfold ckEs at h; split at h <;> try contradiction
    rename_i y ys
    rw [Bool.and_eq_true] at h
    have : ys = [] := by
      have := ckEs_len [] ys h.2
      exact List.eq_nil_of_length_eq_zero this.symm
    subst this
    exact d_and1 (okE e o y h.1)
  | e :: f :: es, X, sc, raw, E0, o, xs, pos, h, hn => by
    unfold ckEs at h; split at h <;> try contradiction
    rename_i y ys
    rw [Bool.and_eq_true] at h
    cases ys with
    | nil =>
      have := ckEs_len (f :: es) [] h.2
      simp at this
    | cons z zs => exact d_boo (okE e o y h.1) (okB a (f :: es) o (z :: zs) pos h.2 (by simp))
theorem okBT (a : Bool) : ∀ (es : List T) {X : Cx} {sc raw : Scope} {E0 : L2.St → XK} (o : COk c cf eo X sc raw E0) (xs : List Expr) (pos : Pos), ckTs c sc raw es xs = true → es ≠ [] → PW X (.BoolOp (boA a) xs pos) (dnB (kf X) (fun σ => eo (E0 σ)) (evBT cf a es))
  | [], X, sc, raw, E0, o, xs, pos, h, hn => absurd rfl hn
  | [e], X, sc, raw, E0, o, xs, pos, h, hn => by
    unfold ckTs at h; split at h <;> try contradiction
    rename_i y ys
    rw [Bool.and_eq_true] at h
    cases ys with
    | cons => simp [ckTs] at h
    | nil => exact dt_boo1 (okT e o y h.1)
  | e :: f :: es, X, sc, raw, E0, o, xs, pos, h, hn => by
    unfold ckTs at h; split at h <;> try contradiction
    rename_i y ys
    rw [Bool.and_eq_true] at h
    cases ys with
    | nil => simp [ckTs] at h
    | cons z zs => exact dt_boo (okT e o y h.1) (okBT a (f :: es) o (z :: zs) pos h.2 (by simp))
theorem ok1 : ∀ (es : List T) {X : Cx} {sc raw : Scope} {E0 : L2.St → XK} (o : COk c cf eo X sc raw E0) (xs : List Expr), ckT1 c sc raw es xs = true → PTs X xs (dnB (kf X) (fun σ => eo (E0 σ)) (evB1 cf es))
  | [], X, sc, raw, E0, o, xs, h => by
    unfold ckT1 at h; split at h <;> try contradiction
    exact tests0
  | e :: es, X, sc, raw, E0, o, xs, h => by
    unfold ckT1 at h; split at h <;> try contradiction
    rw [Bool.and_eq_true] at h
    have : es = [] := by simpa using h.2
    subst this
    exact tests1 (okT e o _ h.1)
theorem okO : ∀ (e : Option E) {X : Cx} {sc raw : Scope} {E0 : L2.St → XK} (o : COk c cf eo X sc raw E0) (x : Option Expr), ckO c sc raw e x = true → PO X x (dnO (kf X) (fun σ => eo (E0 σ)) (evO cf e))
  | none, X, sc, raw, E0, o, x, h => by
    unfold ckO at h; split at h <;> try contradiction
    exact d_onone
  | some e, X, sc, raw, E0, o, x, h => by
    unfold ckO at h; split at h <;> try contradiction
    exact d_osome (okE e o _ h)
end
end
end Y

/-! K8: what is checked is what is run: statements, functions -/
namespace Y
open PySem PySem.Spec PyProof.Rows L2

def swV (sc : Scope) (e tg : Expr) : Bool :=
  match tg with
  | .Name t p => (match e with
    | .ListComp _ _ s q => decide (sc.names.lookup t = some .local) && p.line == q.line && !(s.names.any fun (n, k) => n == t && (k == .local || k == .cell))
    | .SetComp _ _ s q => true
    | .DictComp _ _ _ s q => decide (sc.names.lookup t = some .local) && p.line == q.line && !(s.names.any fun (n, k) => n == t && (k == .local || k == .cell))
    | _ => false)
  | _ => false
theorem swV_true {env : Env} (hk : env.scope.kind = .function) {elt : Expr} {gs : List Comprehension} {s : Scope} {q : Pos} {t : Str} {p : Pos} {l : Nat} (h : swV env.scope (.ListComp elt gs s q) (.Name t p) = true) : swapsWith (.ListComp elt gs s q) (some (.Name t p)) l env = pure true := by
  have hb : env.blockKind = .function := by unfold Env.blockKind; rw [hk]; rfl
  show (pure (env.blockKind == .function && env.kindOf t == some .local && p.line == q.line && !(s.names.any fun (n, k) => n == t && (k == .local || k == .cell))) : Sem Bool) = pure true
  congr 1
  unfold swV at h
  rw [hb]
  simp only [Bool.and_eq_true, decide_eq_true_eq] at h
  obtain ⟨⟨h1, h2⟩, h3⟩ := h
  have : env.kindOf t = some .local := h1
  rw [this, h2, h3]
  rfl
theorem swV_false {env : Env} (hk : env.scope.kind = .function) {e tg : Expr} {l : Nat} (h : swV env.scope e tg = false) : swapsWith e (some tg) l env = pure false := by
  have hb : env.blockKind = .function := by unfold Env.blockKind; rw [hk]; rfl
  cases tg <;> try (cases e <;> rfl)
  rename_i t p
  cases e <;> try rfl
  · rename_i elt gs s q
    show (pure (env.blockKind == .function && env.kindOf t == some .local && p.line == q.line && !(s.names.any fun (n, k) => n == t && (k == .local || k == .cell))) : Sem Bool) = pure false
    congr 1
    rw [hb]
    unfold swV at h
    have h : (decide (env.kindOf t = some .local) && p.line == q.line && !(s.names.any fun (n, k) => n == t && (k == .local || k == .cell))) = false := h
    rw [← h, show (ScopeKind.function == ScopeKind.function) = true from rfl, Bool.true_and]
    congr 2
    exact Bool.eq_iff_iff.mpr (by simp)
  · simp [swV] at h
  · rename_i kx vx gs s q
    show (pure (env.blockKind == .function && env.kindOf t == some .local && p.line == q.line && !(s.names.any fun (n, k) => n == t && (k == .local || k == .cell))) : Sem Bool) = pure false
    congr 1
    rw [hb]
    unfold swV at h
    have h : (decide (env.kindOf t = some .local) && p.line == q.line && !(s.names.any fun (n, k) => n == t && (k == .local || k == .cell))) = false := h
    rw [← h, show (ScopeKind.function == ScopeKind.function) = true from rfl, Bool.true_and]
    congr 2
    exact Bool.eq_iff_iff.mpr (by simp)

/-- what is taken over, apart -/
def unbox : E → E × Bool
  | .box e => (e, true)
  | e => (e, false)
def ckLc (c : Cfg) (sc raw : Scope) (i : Nat) (e : E) (tg y : Expr) : Bool :=
  match e, tg, y with
  | .comp1 t' it ifs elt own, .Name n _, .ListComp z [⟨tg', iter, ifs', k⟩] scope _ => decide (c.N[i]? = some n) && lk sc n .local && decide (k = 0) && blkB c.N sc scope (ownP c.N own) && ckTg c scope t' tg' && (tgs t').all own.contains && ckI c sc raw (isTp tg') it iter && ckT1 c (relS scope sc) scope ifs ifs' && ckE c (relS scope sc) scope elt z && noSet iter
  | .comp2 t it ifs t1 it1 ifs1 elt own own1, .Name n _, .ListComp z [⟨tg', iter, ifs', k⟩, ⟨tg1, iter1, ifs1', k1⟩] scope _ => decide (c.N[i]? = some n) && lk sc n .local && decide (k = 0) && decide (k1 = 0) && blkB c.N sc scope (ownP c.N own) && ckTg c scope t tg' && (tgs t).all own.contains && ckI c sc raw (isTp tg') it iter && ckT1 c (relS scope sc) scope ifs ifs'
        && ckTg c scope t1 tg1 && (tgs t1).all own1.contains && own1.all own.contains && ckI c (relS scope sc) scope (isTp tg1) it1 iter1 && ckT1 c (relS scope sc) scope ifs1 ifs1' && ckE c (relS scope sc) scope elt z && noSet iter && noSet iter1
  | _, _, _ => false
def retExp : S → Bool
  | .ret _ => true
  | .exp _ => true
  | _ => false
def ckSu0 (c : Cfg) (sc : Scope) (hd : Hd) (suite : List Stmt) : Bool :=
  match hd.bd, suite with
    | .one v, [.Return (some e) _] => ckC v e
    | .tup hs, [.Return (some (.Tuple es _ _)) _] => ckCs hs es || (match hd.nm, hd.cs with
      | some i, [(k, n)] => (match c.N[i]?, c.cs.x[k]? with
        | some nm, some xi => decide (xi.fs.length = n) && lk sc nm .local && okNm nm && ckHes nm xi.fs hs es
        | _, _ => false)
      | _, _ => false)
    | _, _ => false
def ckSu (c : Cfg) (sc : Scope) (hd : Hd) (suite : List Stmt) : Bool :=
  hd.cs.isEmpty || (if hd.gd.isEmpty then ckSu0 c sc hd suite else match suite with
    | .If (.BoolOp .Or ts _) _ [] _ :: rest => (match hd.nm, hd.cs with
      | some i, [(k, n)] => (match c.N[i]?, c.cs.x[k]? with
        | some nm, some xi => decide (xi.fs.length = n) && lk sc nm .local && okNm nm && glb c sc "isinstance" && ckGs nm hd.gd ts
          && (hd.gd.all fun D => lk sc D .globalImplicit && okNm D && c.cs.g.any fun p => decide (p.1 = D) && p.2.contains k) && ckSu0 c sc hd rest
        | _, _ => false)
      | _, _ => false)
    | _ => false)
def ckHd (c : Cfg) (sc : Scope) (hd : Hd) : ExceptHandler → Bool
  | .ExceptHandler (some (.Name x _)) on (b₀ :: suite) _ => lk sc x .globalImplicit && okNm x && c.cs.h.any (fun p => decide (p.1 = x) && decide (p.2 = hd.cs)) && (match on, hd.nm with
      | none, none => true
      | some n, some i => decide (c.N[i]? = some n) && lk sc n .local
      | _, _ => false) && ckSu c sc hd (b₀ :: suite)
  | _ => false
def ckHds (c : Cfg) (sc : Scope) : List Hd → List ExceptHandler → Bool
  | [], [] => true
  | h :: hs, x :: xs => ckHd c sc h x && ckHds c sc hs xs
  | _, _ => false
mutual
def ckS (c : Cfg) (sc raw : Scope) : S → Stmt → Bool
  | .asg t e, x => match x with
    | .Assign [tg] y _ => ckTg c raw t tg && (if swV sc y tg then (match t with
        | .nm i => ckLc c sc raw i (unbox e).1 tg y
        | _ => false)
      else decide (swP sc tg y = some none) && ckE c sc raw e y)
    | _ => false
  | .par is es, x => match x with
    | .Assign [.Tuple ts k p] (.Tuple vs _ _) _ => (match is, ts, vs with
      | [i, j], [.Name n _, .Name m _], [a, b] => decide (c.N[i]? = some n) && decide (c.N[j]? = some m) && decide (i ≠ j) && lk sc n .local && lk sc m .local && decide (swB sc ts vs = some (some [n, m])) && ckEs c sc raw es vs && vs.all noStar
      | [i, j, l], [.Name n _, .Name m _, .Name o _], [a, b, d] => decide (c.N[i]? = some n) && decide (c.N[j]? = some m) && decide (c.N[l]? = some o) && decide (i ≠ j) && decide (i ≠ l) && decide (j ≠ l) && lk sc n .local && lk sc m .local && lk sc o .local && decide (swB sc ts vs = some (some [n, m, o])) && ckEs c sc raw es vs && vs.all noStar
      | _, _, _ => false)
    | _ => false
  | .sub o i e, x => match x with
    | .Assign [.Subscript o' i' _] y _ => ckE c sc raw e y && ckE c sc raw o o' && ckE c sc raw i i' && noSlice i'
    | _ => false
  | .exp e, x => match x with
    | .Expr y _ => noComp y && ckE c sc raw e y
    | _ => false
  | .ret e, x => match x with
    | .Return (some y) _ => ckE c sc raw e y
    | _ => false
  | .retn, x => match x with
    | .Return none _ => true
    | _ => false
  | .ite t a b, x => match x with
    | .If t' a' b' _ => ckT c sc raw t t' && ckSs c sc raw a a' && ckSs c sc raw b b'
    | _ => false
  | .whl t b, x => match x with
    | .While t' b' [] _ => ckT c sc raw t t' && ckSs c sc raw b b'
    | _ => false
  | .for_ t it b, x => match x with
    | .For tg iter b' [] _ => ckTg c raw t tg && ckI c sc raw (isTp tg) it iter && ckSs c sc raw b b' && noSet iter
    | _ => false
  | .pass, x => match x with
    | .Pass _ => true
    | .Expr (.Constant (.str _) _ _) _ => true
    | _ => false
  | .brk, x => match x with
    | .Break _ => true
    | _ => false
  | .cnt, x => match x with
    | .Continue _ => true
    | _ => false
  | .tryN b, x => match x with
    | .Try b' (_ :: _) [] [] _ => ckSs c sc raw b b'
    | _ => false
  | .aug i o e, x => match x with
    | .AugAssign (.Name n _) op y _ => asnB c raw i n && ((decide (o = .add) && decide (op = .Add)) || (decide (o = .sub) && decide (op = .Sub))) && ckE c sc raw e y
    | _ => false
  | .swp o1 i1 o2 i2 e, x => match x with
    | .Assign [.Tuple [.Subscript a b p1, .Subscript a' b' p2] k p] y _ => decide (swP sc (.Tuple [.Subscript a b p1, .Subscript a' b' p2] k p) y = some none) && ckE c sc raw e y && ckE c sc raw o1 a && ckE c sc raw i1 b && ckE c sc raw o2 a' && ckE c sc raw i2 b' && noSlice b && noSlice b'
    | _ => false
  | .rais i n es, x => match x with
    | .Raise (some (.Call (.Name nm _) (e :: es') [] _)) none _ => (match c.cs.x[i]? with | some xi => decide (xi.name = nm) && decide (xi.fs.length = n) | none => false) && lk sc nm .globalImplicit && okNm nm && ckEs c sc raw es (e :: es') && (e :: es').all noStar
    | _ => false
  | .tryX b hs, x => match x with
    | .Try [y] (h₀ :: hds) [] [] _ => retExp b && ckS c sc raw b y && ckHds c sc hs (h₀ :: hds)
    | _ => false
def ckSs (c : Cfg) (sc raw : Scope) : List S → List Stmt → Bool
  | [], x => match x with
    | [] => true
    | _ => false
  | s :: ss, x => match x with
    | y :: ys => ckS c sc raw s y && ckSs c sc raw ss ys
    | _ => false
end
section
variable {c : Cfg} {cf : CF} {eo : XK → XW} {X : Cx} {sc raw : Scope} {E0 : L2.St → XK} {xc : XW} {J : L2.St → Prop}
theorem asg_each {t : Tg} {tg : Expr} {env : Env} (h : ckTg c raw t tg = true) : (assignEach [tg] env).map (·.2) = [assign tg env] := by
  cases t <;> cases tg <;> first | rfl | (simp [ckTg] at h)
theorem not_list {t : Tg} {tg : Expr} (h : ckTg c raw t tg = true) : ∀ ts p, tg ≠ .List ts p := by
  rintro ts p rfl
  cases t <;> simp [ckTg] at h
theorem unbox_ev {e : E} : evE cf e = boxIf (unbox e).2 (evE cf (unbox e).1) := by
  cases e <;> first | rfl | (funext env; rfl)
theorem okLc {i : Nat} {e : E} {tg y : Expr} {p : Pos} (o : COk c cf eo X sc raw E0) (hx : XOk (fun σ => eo (E0 σ)) xc J) (hJ : ∀ is, JSet J is) (hkd : X.env.scope.kind = .function) (hs : swV sc y tg = true) (h : ckLc c sc raw i (unbox e).1 tg y = true) : PS X (.Assign [tg] y p) (dnS (kf X) xc J (asgM (.nm i) (evE cf e))) := by
  rw [unbox_ev]
  generalize (unbox e).2 = b
  generalize (unbox e).1 = e at h
  unfold ckLc at h
  split at h <;> try contradiction
  · rename_i t' it ifs elt own n p1 z tg' iter ifs' k scope p2
    simp only [Bool.and_eq_true, decide_eq_true_eq] at h
    obtain ⟨⟨⟨⟨⟨⟨⟨⟨⟨g1, g2⟩, rfl⟩, g4⟩, g5⟩, g6⟩, g7⟩, g8⟩, g9⟩, g10⟩ := h
    have bo := blkB_ok g4
    have bo' : BlkOk X.N X.env.scope scope (ownP c.N own) := by rw [o.hN, o.hsc]; exact bo
    have key := s_setLc (X := X) (b := b) (xw := fun σ => eo (E0 σ)) (xc := xc) (J := J) (xc0 := eo L2.E0) (pyb := pyI it) (own := ownP c.N own) (pos := p2) (me := evE cf elt) (mf := evB1 cf ifs) (fr := frE elt) (i := i) (y := n) (py := p1) (spos := p) o.calm (by rw [o.hN]; exact o.nd) hx (hJ [i]) (by rw [o.hN]; exact g1)
      (by rw [o.hsc]; exact lk_ok g2) (swV_true hkd (by rw [o.hsc]; exact hs)) bo' (by rw [ownP_snd]; simpa using g6) (fun hp => tp_ok g5 (pyI_tp g7 hp)) (okI it o tg' iter g7 isTp_ok)
      (fun s H C cl fp => (o.blk bo s H C cl fp).tg g5) (fun s H C cl fp => ok1 ifs (o.blk bo s H C cl fp) ifs' g8) (fun s H C cl fp => okE elt (o.blk bo s H C cl fp) z g9) (noSet_ok g10)
    rw [ownP_snd] at key
    exact key
  · rename_i t it ifs t1 it1 ifs1 elt own own1 n p1 z tg' iter ifs' k tg1 iter1 ifs1' k1 scope p2
    simp only [Bool.and_eq_true, decide_eq_true_eq] at h
    obtain ⟨⟨⟨⟨⟨⟨⟨⟨⟨⟨⟨⟨⟨⟨⟨⟨g1, g2⟩, rfl⟩, rfl⟩, g4⟩, g5⟩, g6⟩, g7⟩, g8⟩, g9⟩, g10⟩, g11⟩, g12⟩, g13⟩, g14⟩, g15⟩, g16⟩ := h
    have bo := blkB_ok g4
    have bo' : BlkOk X.N X.env.scope scope (ownP c.N own) := by rw [o.hN, o.hsc]; exact bo
    have key := s_setLc2 (X := X) (b := b) (xw := fun σ => eo (E0 σ)) (xc := xc) (J := J) (xc0 := eo L2.E0) (pyb := pyI it) (pyb1 := pyI it1) (own := ownP c.N own) (vs1 := own1) (pos := p2) (me := evE cf elt) (mf := evB1 cf ifs) (mf1 := evB1 cf ifs1) (fr := frE elt) (i := i) (y := n) (py := p1) (spos := p) o.calm (by rw [o.hN]; exact o.nd) hx (hJ [i]) (by rw [o.hN]; exact g1)
      (by rw [o.hsc]; exact lk_ok g2) (swV_true hkd (by rw [o.hsc]; exact hs)) bo' (by rw [ownP_snd]; simpa using g11) (by rw [ownP_snd]; simpa using g6) (by simpa using g10) (fun hp => tp_ok g5 (pyI_tp g7 hp)) (fun hp => tp_ok g9 (pyI_tp g12 hp)) (okI it o tg' iter g7 isTp_ok)
      (fun s H C cl fp => (o.blk bo s H C cl fp).tg g5) (fun s H C cl fp => ok1 ifs (o.blk bo s H C cl fp) ifs' g8)
      (fun s H C cl fp => okI it1 (o.blk bo s H C cl fp) tg1 iter1 g12 isTp_ok) (fun s H C cl fp => (o.blk bo s H C cl fp).tg g9) (fun s H C cl fp => ok1 ifs1 (o.blk bo s H C cl fp) ifs1' g13) (fun s H C cl fp => okE elt (o.blk bo s H C cl fp) z g14) (noSet_ok g15) (fun _ => noSet_ok g16)
    rw [ownP_snd] at key
    exact key
/-- where nothing may be raised -/
theorem COk.nx (o : COk c cf eo X sc raw E0) : COk c cf eo X.nox sc raw (fun _ => L2.E0) where
  hN := o.hN
  nd := o.nd
  hsc := o.hsc
  kd := o.kd
  calm := o.calm
  room := o.room
  room2 := o.room2
  asn := o.asn
  hE := fun σ pins H s e s' I h => passL pins σ H s e s' I h
  heo := o.heo
  fns := o.fns
  blt := o.blt
  exs := o.exs
  cst := o.cst
/-- inside a try -/
theorem COk.tr (o : COk c cf eo X sc raw E0) {E1 : L2.St → XK} {pn : List (Addr × Obj)} {xe : Value → Shared → Prop} (tk : Takes (X.tr pn xe) (fun cls d σ H => E1 σ cls d H)) : COk c cf eo (X.tr pn xe) sc raw E1 where
  hN := o.hN
  nd := o.nd
  hsc := o.hsc
  kd := o.kd
  calm := o.calm
  room := o.room
  room2 := o.room2
  asn := o.asn
  hE := fun σ => passAt tk σ
  heo := o.heo
  fns := o.fns
  blt := o.blt
  exs := o.exs
  cst := o.cst
theorem su_ok0 (o : COk c cf eo X sc raw E0) {T : List (Addr × List Str)} (ex : ExsOk X.prog X.w X.K X.mg X.base eo c.cs T) {hd : Hd} {suite : List Stmt} (h : ckSu0 c sc hd suite = true) (a : Addr) (oe : Obj) (cls : Value) (d : Option Addr) (pn : List (Addr × Obj)) (hz : Zc cls d oe) (hf : ∃ vs, oe.data = .fields vs) :
    PSs (X.suite a ((a, oe) :: pn)) suite (tsH (kf X) T hd a cls d) := by
  unfold ckSu0 at h
  split at h <;> try contradiction
  · rename_i v e p hb
    exact su_one hb h
  · rename_i hs es k p p' hb
    rw [Bool.or_eq_true] at h
    rcases h with h | h
    · exact su_tupC rfl hb h
    · split at h <;> try contradiction
      rename_i i kk n hnm hcs
      split at h <;> try contradiction
      rename_i nm xi hN hx
      simp only [Bool.and_eq_true, decide_eq_true_eq] at h
      obtain ⟨⟨⟨rfl, h2⟩, h3⟩, h4⟩ := h
      obtain ⟨C, ht, xo⟩ := ex.cls kk xi hx
      exact su_tupF hb hnm hcs ht xo.fld hz hf (by rw [o.hN]; exact hN) (.inl (by rw [o.hsc]; exact lk_ok h2)) (okNm_ok h3).1 (okNm_ok h3).2 h4
theorem su_ok (o : COk c cf eo X sc raw E0) {T : List (Addr × List Str)} (ex : ExsOk X.prog X.w X.K X.mg X.base eo c.cs T) {hd : Hd} {suite : List Stmt} (h : ckSu c sc hd suite = true) (a : Addr) (oe : Obj) (cls : Value) (d : Option Addr) (pn : List (Addr × Obj)) (hz : Zc cls d oe) (hf : ∃ vs, oe.data = .fields vs) :
    PSs (X.suite a ((a, oe) :: pn)) suite (tsH (kf X) T hd a cls d) := by
  unfold ckSu at h
  rw [Bool.or_eq_true] at h
  rcases h with h | h
  · exact su_none (by simpa using h)
  · split at h
    · exact su_ok0 o ex h a oe cls d pn hz hf
    · split at h <;> try contradiction
      rename_i ts q alt p rest
      split at h <;> try contradiction
      rename_i i kk n hnm hcs
      split at h <;> try contradiction
      rename_i nm xi hN hx
      simp only [Bool.and_eq_true, decide_eq_true_eq] at h
      obtain ⟨⟨⟨⟨⟨⟨rfl, h2⟩, h3⟩, h4⟩, h5⟩, h6⟩, h7⟩ := h
      obtain ⟨C, ht, xo⟩ := ex.cls kk xi hx
      refine su_grd hnm hcs ht hz (o.gl h4).1 (o.gl h4).2 (by rw [o.hN]; exact hN) (.inl (by rw [o.hsc]; exact lk_ok h2)) (okNm_ok h3).1 (okNm_ok h3).2 (fun D hD => ?_) h5 (su_ok0 o ex h7 a oe cls d pn hz hf)
      have g := List.all_eq_true.mp h6 D hD
      simp only [Bool.and_eq_true] at g
      obtain ⟨⟨g1, g2⟩, g3⟩ := g
      obtain ⟨pr, hpr, e⟩ := List.any_eq_true.mp g3
      rw [Bool.and_eq_true, decide_eq_true_eq] at e
      obtain ⟨CD, hm, hk⟩ := ex.grd pr hpr
      rw [e.1] at hm
      refine ⟨?_, (okNm_ok g2).1, CD, hm, hk kk (by simpa using e.2) C xi.fs ht⟩
      unfold Gl Env.kindOf
      rw [o.hsc]
      exact lk_ok g1
theorem hds_ok (o : COk c cf eo X sc raw E0) {T : List (Addr × List Str)} (ex : ExsOk X.prog X.w X.K X.mg X.base eo c.cs T) : ∀ {hs : List Hd} {hds : List ExceptHandler}, ckHds c sc hs hds = true → ∃ l, HdsK X T hs l ∧ HdsA X hds l
  | [], [], _ => ⟨[], .nil, .nil⟩
  | hd :: hs, x :: xs, h => by
    unfold ckHds at h
    rw [Bool.and_eq_true] at h
    obtain ⟨h1, h2⟩ := h
    obtain ⟨l, k, q⟩ := hds_ok o ex h2
    unfold ckHd at h1
    split at h1 <;> try contradiction
    rename_i nm p on b₀ suite p'
    simp only [Bool.and_eq_true] at h1
    obtain ⟨⟨⟨⟨g1, g2⟩, g3⟩, g4⟩, g5⟩ := h1
    obtain ⟨pr, hpr, e⟩ := List.any_eq_true.mp g3
    rw [Bool.and_eq_true, decide_eq_true_eq, decide_eq_true_eq] at e
    obtain ⟨Ch, hm, hk⟩ := ex.hdl pr hpr
    rw [e.1] at hm
    rw [e.2] at hk
    have hg : Gl X nm := by
      unfold Gl Env.kindOf
      rw [o.hsc]
      exact lk_ok g1
    have hname : (on = none ∧ hd.nm = none) ∨ ∃ n i, on = some n ∧ hd.nm = some i ∧ X.N[i]? = some n ∧ X.env.kindOf n = some .local := by
      cases e1 : on with
      | none =>
        cases e2 : hd.nm with
        | none => exact .inl ⟨rfl, rfl⟩
        | some i => rw [e1, e2] at g4; cases g4
      | some n =>
        cases e2 : hd.nm with
        | none => rw [e1, e2] at g4; cases g4
        | some i =>
          rw [e1, e2] at g4
          have g4 : (decide (c.N[i]? = some n) && lk sc n .local) = true := g4
          rw [Bool.and_eq_true, decide_eq_true_eq] at g4
          exact .inr ⟨n, i, rfl, rfl, by rw [o.hN]; exact g4.1, by unfold Env.kindOf; rw [o.hsc]; exact lk_ok g4.2⟩
    refine ⟨_, .cons hk (fun i e => ?_) k, .cons ⟨hg, (okNm_ok g2).1, .inl hm⟩ hname (su_ok o ex g5) q⟩
    rcases hname with ⟨_, e2⟩ | ⟨n, i', _, e2, e3, _⟩
    · rw [e2] at e; cases e
    · rw [e2] at e
      cases e
      exact (List.getElem?_eq_some_iff.mp e3).1
  | [], _ :: _, h => by simp [ckHds] at h
  | _ :: _, [], h => by simp [ckHds] at h
theorem okRais (o : COk c cf eo X sc raw E0) (tk : Takes X (fun cls d σ H => E0 σ cls d H)) (hx : XOk (fun σ => eo (E0 σ)) xc J) {i n : Nat} {es : List E} {x : Stmt} (h : ckS c sc raw (.rais i n es) x = true) : PS X x (dnS (kf X) xc J (evS cf (.rais i n es))) := by
  obtain ⟨T, ex⟩ := o.exs
  unfold ckS at h; split at h <;> try contradiction
  rename_i nm p e es' pos pos'
  simp only [Bool.and_eq_true] at h
  obtain ⟨⟨⟨⟨h1, h2⟩, h3⟩, h4⟩, h5⟩ := h
  cases hxi : c.cs.x[i]? with
  | none => rw [hxi] at h1; cases h1
  | some xi =>
    rw [hxi] at h1
    simp only [Bool.and_eq_true, decide_eq_true_eq] at h1
    obtain ⟨rfl, rfl⟩ := h1
    obtain ⟨C, ht, xo⟩ := ex.cls i xi hxi
    obtain ⟨fI, fd, ps, iC, tI, F1, hb⟩ := xo.ini
    have hg : Gl X xi.name := by
      unfold Gl Env.kindOf
      rw [o.hsc]
      exact lk_ok h2
    have hx' := hx
    rw [ex.eo] at hx'
    have ha := okEs es o (e :: es') h4 h5
    rw [ex.eo] at ha
    rw [List.all_cons, Bool.and_eq_true] at h5
    exact s_rais o.calm tk hx' ht xo.len xo.ox iC tI F1 o.room2 hb hg xo.nm (okNm_ok h3).1 ha (star_one h5.1) (star_none h5.2)
theorem okTry (o : COk c cf eo X sc raw E0) (tk : Takes X (fun cls d σ H => E0 σ cls d H)) (hst : X.stack = X.env :: X.outer) (hfr : X.env.frame = some X.env.locals) (hx : XOk (fun σ => eo (E0 σ)) xc J) {b : S} {hs : List Hd} {x : Stmt} (h : ckS c sc raw (.tryX b hs) x = true) : PS X x (dnS (kf X) xc J (evS cf (.tryX b hs))) := by
  obtain ⟨T, ex⟩ := o.exs
  unfold ckS at h; split at h <;> try contradiction
  rename_i y h₀ hds pos
  rw [Bool.and_eq_true, Bool.and_eq_true] at h
  obtain ⟨⟨h1, h2⟩, h3⟩ := h
  obtain ⟨l, hk, ha⟩ := hds_ok o ex h3
  have hx' := hx
  rw [ex.eo] at hx'
  refine s_tryX hst hfr (by rw [o.hN]; exact o.nd) tk hx' hk ha fun σ0 E1 pn xe tk1 po => ?_
  have o1 := o.tr tk1
  have hxx : XOk (fun σ => eo (E1 σ)) (eoX T (E1 σ0)) (fun τ => τ = σ0) := fun τ e c fs ρ H q => by
    rw [e, ex.eo]
    exact q
  have one : ∀ {m : Ev → M Fl}, PS (X.tr pn xe) y (dnS (kf X) (eoX T (E1 σ0)) (fun τ => τ = σ0) m) → PSs (X.tr pn xe) [y] (dnS (kf X) (eoX T (E1 σ0)) (fun τ => τ = σ0) (fun env => do let f ← m env; seqF (fun env => pure (.nx env)) f)) := fun p => ss_cons p ss_nil
  cases b with
  | ret e =>
    unfold ckS at h2; split at h2 <;> try contradiction
    exact one (s_ret hxx (okE e o1 _ h2))
  | exp e =>
    unfold ckS at h2; split at h2 <;> try contradiction
    rw [Bool.and_eq_true] at h2
    exact one (s_exp hxx (okE e o1 _ h2.2) (swaps_none h2.1))
  | _ => cases h1
mutual
theorem okS {X : Cx} {E0 : L2.St → XK} {xc : XW} {J : L2.St → Prop} (o : COk c cf eo X sc raw E0) (hp : PassesOwn (model X.prog X.w) X.A X.env X.xe) (tk : Takes X (fun cls d σ H => E0 σ cls d H)) (hst : X.stack = X.env :: X.outer) (hfr : X.env.frame = some X.env.locals) (hx : XOk (fun σ => eo (E0 σ)) xc J) (hJ : ∀ is, JSet J is) : ∀ (s : S) (x : Stmt), ckS c sc raw s x = true → PS X x (dnS (kf X) xc J (evS cf s))
  | .asg t e, x, h => by
    unfold ckS at h; split at h <;> try contradiction
    rename_i tg y p
    rw [Bool.and_eq_true] at h
    obtain ⟨h1, h2⟩ := h
    have hkd : X.env.scope.kind = .function := by rw [o.hsc]; exact o.kd
    split at h2
    · rename_i hs
      split at h2 <;> try contradiction
      exact okLc o hx hJ hkd hs h2
    · rename_i hs
      rw [Bool.and_eq_true, decide_eq_true_eq] at h2
      exact s_asg hx (hJ _) (okE e o y h2.2) (o.tg h1) (swV_false hkd (by rw [o.hsc]; simpa using hs)) (swP_none hkd (not_list h1) (by rw [o.hsc]; exact h2.1)) (asg_each h1)
  | .par is es, x, h => by
    unfold ckS at h; split at h <;> try contradiction
    have hkd : X.env.scope.kind = .function := by rw [o.hsc]; exact o.kd
    rename_i ts k p vs k2 p2 p3
    split at h <;> try contradiction
    · rename_i i j n q1 m q2 a b
      simp only [Bool.and_eq_true, decide_eq_true_eq] at h
      obtain ⟨⟨⟨⟨⟨⟨⟨g1, g2⟩, g3⟩, g4⟩, g5⟩, g6⟩, g7⟩, g8⟩ := h
      exact s_par2 o.calm (by rw [o.hN]; exact o.nd) hx (hJ _) (by rw [o.hN]; exact g1) (by rw [o.hN]; exact g2) g3 (by rw [o.hsc]; exact lk_ok g4) (by rw [o.hsc]; exact lk_ok g5) (okEs es o _ g7 g8) (swB_ok hkd (by rw [o.hsc]; exact g6))
    · rename_i i j l n q1 m q2 oo q3 a b d
      simp only [Bool.and_eq_true, decide_eq_true_eq] at h
      obtain ⟨⟨⟨⟨⟨⟨⟨⟨⟨⟨⟨g1, g2⟩, g2'⟩, g3⟩, g3'⟩, g3''⟩, g4⟩, g5⟩, g5'⟩, g6⟩, g7⟩, g8⟩ := h
      exact s_par3 o.calm (by rw [o.hN]; exact o.nd) hx (hJ _) (by rw [o.hN]; exact g1) (by rw [o.hN]; exact g2) (by rw [o.hN]; exact g2') g3 g3' g3'' (by rw [o.hsc]; exact lk_ok g4) (by rw [o.hsc]; exact lk_ok g5) (by rw [o.hsc]; exact lk_ok g5') (okEs es o _ g7 g8) (swB_ok hkd (by rw [o.hsc]; exact g6))
  | .sub a i e, x, h => by
    unfold ckS at h; split at h <;> try contradiction
    rename_i o' i' p1 y p
    simp only [Bool.and_eq_true] at h
    obtain ⟨⟨⟨h1, h2⟩, h3⟩, h4⟩ := h
    exact s_sub o.room hx (okE e o _ h1) (okE a o _ h2) (okE i o _ h3) (show swapsWith _ (some (.Subscript o' i' p1)) p.line X.env = pure false from swaps_sub) (asg_sub h4)
  | .exp e, x, h => by
    unfold ckS at h; split at h <;> try contradiction
    rw [Bool.and_eq_true] at h
    exact s_exp hx (okE e o _ h.2) (swaps_none h.1)
  | .ret e, x, h => by
    unfold ckS at h; split at h <;> try contradiction
    exact s_ret hx (okE e o _ h)
  | .retn, x, h => by
    unfold ckS at h; split at h <;> try contradiction
    exact s_retn
  | .ite t a b, x, h => by
    unfold ckS at h; split at h <;> try contradiction
    simp only [Bool.and_eq_true] at h
    exact s_if hx (okT t o _ h.1.1) (okSs o hp tk hst hfr hx hJ a _ h.1.2) (okSs o hp tk hst hfr hx hJ b _ h.2)
  | .whl t b, x, h => by
    unfold ckS at h; split at h <;> try contradiction
    simp only [Bool.and_eq_true] at h
    exact s_while hp hx (okT t o _ h.1) (okSs o hp tk hst hfr hx hJ b _ h.2)
  | .for_ t it b, x, h => by
    unfold ckS at h; split at h <;> try contradiction
    simp only [Bool.and_eq_true] at h
    obtain ⟨⟨⟨h1, h2⟩, h3⟩, h4⟩ := h
    exact s_for hp o.calm hx (hJ _) (fun hp => tp_ok h1 (pyI_tp h2 hp)) (okI it o _ _ h2 isTp_ok) (o.tg h1) (okSs o hp tk hst hfr hx hJ b _ h3) (noSet_ok h4)
  | .pass, x, h => by
    unfold ckS at h; split at h <;> try contradiction
    · exact s_pass
    · exact s_doc
  | .brk, x, h => by
    unfold ckS at h; split at h <;> try contradiction
    exact s_brk
  | .cnt, x, h => by
    unfold ckS at h; split at h <;> try contradiction
    exact s_cnt
  | .tryN b, x, h => by
    unfold ckS at h; split at h <;> try contradiction
    have hb := okSs o.nx PassesOwn.never (fun _ _ ⟨_, _, _, _, _, _, _, _, _, _, _, _, _, _, _, _, z⟩ => z.elim) hst hfr (xc := eo L2.E0) (J := J) (fun σ _ c fs ρ H h => h) hJ b _ h
    exact PS.mono (ps_try_thru0 hb) fun D σ H ⟨B, ρ, h, env, s, er, j, q⟩ => ⟨B, ρ, h, env, s, er, j, Post.nox q (eo L2.E0)⟩
  | .aug i op e, x, h => by
    unfold ckS at h; split at h <;> try contradiction
    rename_i n p1 op' y p
    simp only [Bool.and_eq_true, Bool.or_eq_true, decide_eq_true_eq] at h
    obtain ⟨⟨h1, h2⟩, h3⟩ := h
    unfold asnB at h1
    rw [Bool.and_eq_true, Bool.or_eq_true] at h1
    obtain ⟨h4, h5⟩ := h1
    obtain ⟨h6, h7⟩ := o.asn n (h5.imp lk_ok lk_ok)
    exact s_aug hx (hJ _) (by rw [o.hN]; exact o.nd) (by rw [o.hN]; exact of_decide_eq_true h4) (by rw [o.hsc]; exact h6) (by rw [o.hsc]; exact h7) (okE e o _ h3) h2
  | .swp o1 i1 o2 i2 e, x, h => by
    unfold ckS at h; split at h <;> try contradiction
    have hkd : X.env.scope.kind = .function := by rw [o.hsc]; exact o.kd
    rename_i a b p1 a' b' p2 kk pp y pos
    simp only [Bool.and_eq_true, decide_eq_true_eq] at h
    obtain ⟨⟨⟨⟨⟨⟨⟨h1, h2⟩, h3⟩, h4⟩, h5⟩, h6⟩, h7⟩, h8⟩ := h
    exact s_swp o.room o.calm hx (okE e o _ h2) (okE o1 o _ h3) (okE i1 o _ h4) (okE o2 o _ h5) (okE i2 o _ h6) (show swapsWith y (some (.Tuple [.Subscript a b p1, .Subscript a' b' p2] kk pp)) pos.line X.env = pure false from swV_false hkd rfl) (swP_none hkd (fun _ _ z => by cases z) (by rw [o.hsc]; exact h1)) h7 h8
  | .rais i n es, x, h => okRais o tk hx h
  | .tryX b hs, x, h => okTry o tk hst hfr hx h
theorem okSs {X : Cx} {E0 : L2.St → XK} {xc : XW} {J : L2.St → Prop} (o : COk c cf eo X sc raw E0) (hp : PassesOwn (model X.prog X.w) X.A X.env X.xe) (tk : Takes X (fun cls d σ H => E0 σ cls d H)) (hst : X.stack = X.env :: X.outer) (hfr : X.env.frame = some X.env.locals) (hx : XOk (fun σ => eo (E0 σ)) xc J) (hJ : ∀ is, JSet J is) : ∀ (s : List S) (x : List Stmt), ckSs c sc raw s x = true → PSs X x (dnS (kf X) xc J (evSs cf s))
  | [], x, h => by
    unfold ckSs at h; split at h <;> try contradiction
    exact ss_nil
  | s :: ss, x, h => by
    unfold ckSs at h; split at h <;> try contradiction
    rw [Bool.and_eq_true] at h
    exact ss_cons (okS o hp tk hst hfr hx hJ s _ h.1) (okSs o hp tk hst hfr hx hJ ss _ h.2)
end
end
end Y

/-! K9: functions, the law -/
namespace Y
open PySem PySem.Spec PyProof.Rows L2

/-- a def of the text, with its own form -/
structure Fd where
  name : Str
  qual : Str
  N : List Str
  ps : List Str
  kws : List (List Str × List Nat)
  st : Stmt
  body : List S
def Fd.d (f : Fd) : Df := ⟨f.ps.length, f.N.length, f.body⟩
def Fd.i (f : Fd) : FnI := ⟨f.name, f.ps, f.kws⟩
abbrev progD (fs : List Fd) : List Df := fs.map Fd.d
abbrev cfgD (fs : List Fd) (bl : List Str) (cs : CsT) (f : Fd) : Cfg := ⟨f.N, fs.map Fd.i, bl, cs⟩
/-- the text of a def answers its form -/
def ckF (fs : List Fd) (bl : List Str) (cs : CsT) (f : Fd) : Bool :=
  decide ((defScope f.st).kind = .function) && !(defScope f.st).isCoroutine && !(defScope f.st).isGenerator && decide f.N.Nodup && decide (f.N.take f.ps.length = f.ps)
    && (f.ps.all fun x => lk (defScope f.st) x .local || lk (defScope f.st) x .cell) && ((defScope f.st).names.all fun y => decide (y.2 ≠ .free)) && ckSs (cfgD fs bl cs f) (defScope f.st) (defScope f.st) f.body (defBody f.st)
/-- a def as it stands behind the top -/
structure FdOk (K : PySem.W.Frag) (mg : Str → Option Value) (F : Fd) (f : Addr) (fd : FuncData) : Prop where
  fn : Fun K F.name F.qual F.st f fd
  mg : mg F.name = some (.ref f)
  bd : Binds K fd F.ps []
  kw : ∀ kw ∈ F.kws, KwB K fd F.ps kw.1 kw.2
/-- the module's constants -/
def CsOk (P : Program) (w : World) (K : PySem.W.Frag) (mg : Str → Option Value) (cs : CsT) : Prop := ∀ p ∈ cs.k, ∃ u v, mg p.1 = some u ∧ RelV v u ∧ (∀ B ρ H, Rel ⟨K, P, w⟩ B ρ H p.2 v) ∧ isL p.2 = false
section
variable {P : Program} {w : World} {K : PySem.W.Frag} {mg : Str → Option Value} {base : Heap} {eo : XK → XW} {fs : List Fd} {bl : List Str} {cs : CsT}
theorem scope_ok {F : Fd} (h : ckF fs bl cs F = true) : FnScope F.N F.ps (defScope F.st) := by
  unfold ckF at h
  simp only [Bool.and_eq_true, decide_eq_true_eq, Bool.not_eq_true', List.all_eq_true, Bool.or_eq_true] at h
  obtain ⟨⟨⟨⟨⟨⟨⟨h1, h2⟩, h3⟩, h4⟩, h5⟩, h6⟩, h8⟩, h7⟩ := h
  exact ⟨h1, h2, h3, h4, h5, fun x hx => (h6 x hx).imp lk_ok lk_ok, h8⟩
theorem start_env {K : KF} {B : Addr → Prop} {ρ : List Addr} {H : Hp} {F : Fd} {args : List PV} {vs : List V} (rs : Rels K B ρ H args vs) (hn : vs.length = F.ps.length) : EnvR K B ρ H (startE F.d args) (L2.start F.N vs) := by
  unfold startE L2.start
  have hl := rs.length
  have e : F.d.slots - F.d.n = F.N.length - vs.length := by rw [hn]; rfl
  rw [e]
  refine ⟨by simp [hl], fun i p q => ?_⟩
  by_cases hi : i < args.length
  · rw [List.getElem?_append_left (by simpa using hi), List.getElem?_map] at q
    cases h1 : args[i]? with
    | none => rw [h1] at q; cases q
    | some x =>
      rw [h1] at q
      cases q
      obtain ⟨v, hv, r⟩ := rs.get h1
      refine ⟨v, ?_, r⟩
      rw [List.getElem?_append_left (by simp; omega), List.getElem?_map, hv]
      rfl
  · rw [List.getElem?_append_right (by simp; omega)] at q
    have := List.getElem?_eq_some_iff.mp q
    obtain ⟨_, h2⟩ := this
    simp at h2
theorem run_ok {T : List (Addr × List Str)} (hex : ExsOk P w K mg base eo cs T) (hc : ∀ F ∈ fs, ckF fs bl cs F = true) (hbl : ∀ x ∈ bl, mg x = none) (hcs : CsOk P w K mg cs) (hF : ∀ (i : Nat) (F : Fd), fs[i]? = some F → ∃ f fd, FdOk K mg F f fd) : ∀ (k i : Nat) (F : Fd) (f : Addr) (fd : FuncData), fs[i]? = some F → FdOk K mg F f fd →
    FnOk P w K mg base (L2.CX P w) (k + 2) f fd F.ps (spOf ⟨K, P, w⟩ eo (run (progD fs) k i) F.ps.length)
  | 0, i, F, f, fd, hi, ok => ⟨fun vs H Q E h => h.1, fun A outer s H args us vs Q E hr he hb hv hs => by
      obtain ⟨_, B, ρ, h, as, s0, rs, p⟩ := hs
      exact p.elim⟩
  | k + 1, i, F, f, fd, hi, ok => by
    have hcF := hc F (List.mem_of_getElem? hi)
    refine ok.fn.okX (scope_ok hcF) (fun vs H Q E h => h.1) fun cdv A outer s H vs Q E hr hsp => ?_
    obtain ⟨hn, B, ρ, h, args, s0, rs, p⟩ := hsp
    have tk : Takes (cxOf (L2.CX P w) P w K mg base F.N F.qual (defScope F.st) f cdv A outer s H E) (fun cls d _ H => E cls d H) := takes_of rfl rfl rfl rfl
    have o : COk (cfgD fs bl cs F) (run (progD fs) k) eo (cxOf (L2.CX P w) P w K mg base F.N F.qual (defScope F.st) f cdv A outer s H E) (defScope F.st) (defScope F.st) (fun _ => E) := {
      hN := rfl
      nd := (scope_ok hcF).nd
      hsc := rfl
      kd := (scope_ok hcF).kind
      calm := rfl
      room := ⟨_, hr⟩
      room2 := hr.mono (by omega)
      asn := fun x hx => ⟨hx, .inl rfl⟩
      hE := fun σ => passAt tk σ
      heo := by rw [hex.eo]; exact eoX_ok
      fns := fun j fi hj => by
        rw [List.getElem?_map] at hj
        cases hG : fs[j]? with
        | none => rw [hG] at hj; cases hj
        | some G =>
          rw [hG] at hj
          cases hj
          obtain ⟨g, gd, okG⟩ := hF j G hG
          exact ⟨_, g, gd, hr, okG.mg, okG.fn.kp, run_ok hex hc hbl hcs hF k j G g gd hG okG, okG.bd, okG.kw⟩
      blt := hbl
      exs := ⟨T, hex⟩
      cst := hcs }
    refine ⟨_, okSs (xc := eo E) (J := fun _ => True) o (passes_of rfl) tk rfl rfl (fun σ _ c fs ρ H q => q) (fun is i _ τ v _ => True.intro) F.body (defBody F.st) ?_, ?_⟩
    · unfold ckF at hcF
      rw [Bool.and_eq_true] at hcF
      exact hcF.2
    · refine ⟨B, ρ, h, startE F.d args, s0, start_env rs hn, True.intro, ?_⟩
      have p : Post ⟨K, P, w⟩ B (eo E) ρ H ((match (progD fs)[i]? with | some d => runD (run (progD fs) k) d args | none => M.err : M PV) h) _ := p
      have hd : (progD fs)[i]? = some F.d := by rw [List.getElem?_map, hi]; rfl
      rw [hd] at p
      have p : Post ⟨K, P, w⟩ B (eo E) ρ H ((if args.length = F.d.n then (evSs (run (progD fs) k) F.d.body (startE F.d args) >>= finF) else M.err : M PV) h) _ := p
      rw [if_pos (by rw [rs.length, hn]; rfl)] at p
      refine (Post.bind p).imp fun fl h1 ρ1 H1 e1 s1 q => ?_
      cases fl with
      | nx e => exact fun σ _ _ => (Post.pure q s1) .non (by simp only [Rel])
      | rt v => exact fun v' r => (Post.pure q s1) v' r
      | bk e => exact q.elim
      | ct e => exact q.elim
end
/-- a program without exceptions of its own -/
theorem exs_nil {P : Program} {w : World} {K : PySem.W.Frag} {mg : Str → Option Value} {cs : CsT} (hx : cs.x = []) (hh : cs.h = []) (hg : cs.g = []) : ∃ T, ∀ base, ExsOk P w K mg base (eoX T) cs T :=
  ⟨[], fun base => ⟨rfl, fun i xi e => by rw [hx] at e; simp at e, fun p hp => by rw [hh] at hp; (cases hp), fun p hp => by rw [hg] at hp; cases hp⟩⟩
/-- no exception leaves -/
def eoF : XK → XW := fun _ _ _ _ _ => False
theorem eoF_ok : EoOk eoF := fun _ _ _ _ _ _ _ h => h.elim
theorem run_law {l : PySem.W.OpenLaw} {n k : Nat} {q : Program} {loose : List Str} {XP : (Str → Option Value) → Heap → Prop} {YP : World → Heap → Prop} {d : DefRec} {K : Params → PySem.W.Frag} {fs : List Fd} {bl : List Str} {cs : CsT} {i : Nat} {F : Fd} {x : Str}
    (hn : l.most = some n) (hn2 : n ≤ sizeLine) (hdf : d.params.defaults = []) (hr : Room (k + 2) callerA) (hY : ∀ (w : World) (h : Heap), YP w h → (K w.params).In h) (hi : fs[i]? = some F) (hps : F.ps = [x]) (hc : ∀ F ∈ fs, ckF fs bl cs F = true)
    (hF : ∀ (w : World) (mg : Str → Option Value) (fa : Addr) (h : Heap), (K w.params).In h → h.Ns mainGlobals mg → mg d.name = some (.ref fa) →
      (∀ x ∈ bl, mg x = none) ∧ CsOk l.prog w (K w.params) mg cs ∧ (∃ T, ∀ base, ExsOk l.prog w (K w.params) mg base (eoX T) cs T) ∧ (∀ (j : Nat) (G : Fd), fs[j]? = some G → ∃ f fd, FdOk (K w.params) mg G f fd) ∧ ∃ fd, FdOk (K w.params) mg F fa fd ∧ ∀ (s : Shared) (u : Value), BindsTo s fd ⟨[u], []⟩ [(x, u)])
    (law : ∀ ns : List Int, ns.length ≤ n → ∃ h, run (progD fs) k i [.scr (ns.map .int)] [] = .ok (.bl true) h) : PySem.W.WalkO q loose XP YP l.row.toRowW d [] (fun f vs => PySem.call f vs) := by
  refine L2.walk_of (n := n) (k := k + 2) (x := x) (CX := fun w => L2.CX l.prog w) (sp := fun w => spOf ⟨K w.params, l.prog, w⟩ eoF (run (progD fs) k i) F.ps.length) hn hn2 hdf hr hY (fun w mg fa h KX G hmg => ?_) (fun w H a ns hl hO hS => ?_) (fun w H s e s' z => ?_)
  · obtain ⟨hbl, hcs, ⟨T, hT⟩, hfs, fd, ok, hb⟩ := hF w mg fa h KX G hmg
    refine ⟨fd, hb, fun base _ _ => ?_⟩
    have := (run_ok (P := l.prog) (w := w) (base := base) (hT base) hc hbl hcs hfs k i F fa fd hi ok).imp (sp' := spOf ⟨K w.params, l.prog, w⟩ eoF (run (progD fs) k i) F.ps.length) fun vs H Q E ⟨h1, B, ρ, h, as, s, r, p⟩ => ⟨h1, B, ρ, h, as, s, r, Post.xm p fun _ _ _ _ z => z.elim⟩
    rw [hps] at this ⊢
    exact this
  · refine ⟨by rw [hps]; rfl, fun _ => False, [], [], [.scr (ns.map .int)], ⟨rfl, List.nodup_nil, fun a b => b.elim, fun i o a h1 h2 => by simp at h1⟩, Rels.cons ?_ Rels.nil, ?_⟩
    · have hz : (ns.map V.int).length ≤ SZ := by rw [List.length_map, ← SZ_eq]; exact Nat.le_trans hl hn2
      have rl : ∀ ns : List Int, Rels ⟨K w.params, l.prog, w⟩ (fun _ => False) [] H (ns.map .int) (ns.map V.int) := by
        intro ns
        induction ns with
        | nil => exact Rels.nil
        | cons z ns ih => exact Rels.cons (by simp only [Rel]) ih
      simp only [Rel]
      refine ⟨a, ns.map V.int, rfl, ?_, hz, rl ns⟩
      rcases hS with (hS | ⟨o, hS⟩) | hS
      · rcases hO a with z | ⟨o, xs, z⟩
        · rw [z] at hS; cases hS
        · rw [z] at hS; cases hS
      · exact .inl ⟨o, hS, by simp, id⟩
      · exact .inr hS
    · obtain ⟨h', e⟩ := law ns hl
      rw [e]
      intro ρ' H' e' s' v r
      simpa only [Rel] using r
  · obtain ⟨_, _, _, _, _, _, _, _, _, _, _, _, z⟩ := z
    exact z.elim
end Y

/-! K9b: defs as the top leaves them -/
namespace Y
open PySem L2
abbrev fnF (F : Fd) (kV dc pm : Value) (an : Option Addr) (cd ct : Value) : FuncData := PySem.W.fnOf F.name F.qual (defArgs F.st) (defBody F.st) (defScope F.st) .none kV dc pm an cd ct
def BdF (F : Fd) : Prop := ∀ (kV dc pm : Value) (an : Option Addr) (cd ct : Value) (us : List Value), us.length = F.ps.length → bindArgs (fnF F kV dc pm an cd ct) ⟨us, []⟩ = pure (F.ps.zip us)
def KwF (F : Fd) (kw : List Str × List Nat) : Prop := ∀ (kV dc pm : Value) (an : Option Addr) (cd ct : Value) (us ws : List Value), us.length = kw.1.length → permL kw.2 us = some ws → bindArgs (fnF F kV dc pm an cd ct) ⟨[], kw.1.zip us⟩ = pure (F.ps.zip ws)
theorem fd_ok {K : PySem.W.Frag} {h : Heap} {mg : Str → Option Value} {F : Fd} {f : Addr} {oc kV dc pm cd ct : Value} {od an : Option Addr} {sl : Array (Option Value)} (X : K.In h) (G : h.Ns mainGlobals mg) (b : BdF F) (kw : ∀ kw ∈ F.kws, KwF F kw)
    (a : PySem.W.nsIn K mainGlobals F.name = some (some (.ref f))) (l : K.lookup f = some ⟨oc, od, .func (fnF F kV dc pm an cd ct), sl⟩) (c : PySem.W.codeIn K cd F.qual = true) (k : PySem.W.keepIn K (.ref f) = true) : FdOk K mg F f (fnF F kV dc pm an cd ct) :=
  ⟨fun_mk l c k, PySem.W.mg_of X G a, .all (b kV dc pm an cd ct), fun kw' h' => ⟨fun s us ws _ hl hp => .of_eq (kw kw' h' kV dc pm an cd ct us ws hl hp)⟩⟩
theorem fd_mk {K : PySem.W.Frag} {h : Heap} {mg : Str → Option Value} {F : Fd} {f : Addr} {oc kV dc pm cd ct : Value} {od an : Option Addr} {sl : Array (Option Value)} (X : K.In h) (G : h.Ns mainGlobals mg) (b : BdF F) (kw : ∀ kw ∈ F.kws, KwF F kw)
    (a : PySem.W.nsIn K mainGlobals F.name = some (some (.ref f))) (l : K.lookup f = some ⟨oc, od, .func (fnF F kV dc pm an cd ct), sl⟩) (c : PySem.W.codeIn K cd F.qual = true) (k : PySem.W.keepIn K (.ref f) = true) : ∃ f fd, FdOk K mg F f fd := ⟨_, _, fd_ok X G b kw a l c k⟩
end Y

/-! X9: the facts of own exception classes, at a law's end -/
namespace Y
open PySem PySem.Spec PyProof.Rows L2 NdefX
/-- an __init__ that hands its parameters to super and puts them under their names -/
def ckIni (fs : List Str) : List Stmt → Bool
  | [.Expr (.Call (.Attribute (.Call (.Name s p0) [] [] p1) i p2) [.Name a p5] [] p3) p4, .Assign [.Attribute (.Name s1 q1) a1 q2] (.Name a2 q3) q4] =>
    decide (s = "super") && decide (i = "__init__") && decide (fs = [a]) && decide (s1 = "self") && decide (a1 = a) && decide (a2 = a) && (p2.endLine == p3.line) && (a == ("__debug__" : Str)) == false && (a == ("__classdict__" : Str)) == false
  | [.Expr (.Call (.Attribute (.Call (.Name s p0) [] [] p1) i p2) [.Name a p5, .Name b p6] [] p3) p4, .Assign [.Attribute (.Name s1 q1) a1 q2] (.Name a2 q3) q4, .Assign [.Attribute (.Name s2 r1) b1 r2] (.Name b2 r3) r4] =>
    decide (s = "super") && decide (i = "__init__") && decide (fs = [a, b]) && decide (s1 = "self") && decide (a1 = a) && decide (a2 = a) && decide (s2 = "self") && decide (b1 = b) && decide (b2 = b) && (p2.endLine == p3.line)
      && (a == ("__debug__" : Str)) == false && (a == ("__classdict__" : Str)) == false && (b == ("__debug__" : Str)) == false && (b == ("__classdict__" : Str)) == false
  | _ => false
section
variable {CX : CXT} {P : Program} {w : World} {K : PySem.W.Frag} {mg : Str → Option Value} {base : Heap} {k : Nat} {f cc c C : Addr} {name qual : Str} {params : Arguments} {body : List Stmt} {scope : Scope} {dV kV doc pm ct oc : Value} {an od : Option Addr}
    {osl : Array (Option Value)} {fs : List Str}
theorem init_any (ck : ckIni fs body = true) (lk : K.lookup f = some ⟨oc, od, .func (PySem.W.fnX name qual params body scope [(("__class__" : Str), cc)] dV kV doc pm an (.ref c) ct), osl⟩)
    (hcd : PySem.W.codeIn K (.ref c) qual = true) (S : IniS (("self" : Str) :: fs) scope) (F : SupF P K f c cc C) (T : OexC K C) (hmg : mg "super" = none) (nf : ∀ x ∈ fs, PySem.W.findIn K (.ref C) x = some none) :
    FnOk P w K mg base CX (k + 1) f (PySem.W.fnX name qual params body scope [(("__class__" : Str), cc)] dV kV doc pm an (.ref c) ct) (("self" : Str) :: fs) (spIni C fs) := by
  unfold ckIni at ck
  split at ck <;> try contradiction
  · simp only [Bool.and_eq_true, decide_eq_true_eq, beq_iff_eq] at ck
    obtain ⟨⟨⟨⟨⟨⟨⟨⟨rfl, rfl⟩, rfl⟩, rfl⟩, rfl⟩, rfl⟩, h⟩, d⟩, e⟩ := ck
    exact init_ok1 lk hcd S F T hmg (by simpa using h) (nf _ (by simp)) d e
  · simp only [Bool.and_eq_true, decide_eq_true_eq, beq_iff_eq] at ck
    obtain ⟨⟨⟨⟨⟨⟨⟨⟨⟨⟨⟨⟨⟨rfl, rfl⟩, rfl⟩, rfl⟩, rfl⟩, rfl⟩, rfl⟩, rfl⟩, rfl⟩, h⟩, d1⟩, e1⟩, d2⟩, e2⟩ := ck
    exact init_ok2 lk hcd S F T hmg (by simpa using h) (nf _ (by simp)) (nf _ (by simp)) d1 d2 e1 e2
/-- what the text of an __init__ must be -/
def ckI0 (fs : List Str) (st : Stmt) : Bool := ckIni fs (defBody st) && nscB ((("self" : Str) :: fs) ++ [("__class__" : Str)]) (("self" : Str) :: fs) [("__class__" : Str)] (defScope st) && decide ((defScope st).names.lookup ("super" : Str) = some .globalImplicit)
  && (match (((defArgs st).posonlyargs ++ (defArgs st).args).head?) with | some ar => decide (ar.arg = "self") | none => false) && decide fs.Nodup && decide (fs.length ≤ 1000)
theorem xok_mk {xi : XI} {st : Stmt} {h : Heap} {nm q : Str} {N : Addr} {bs bm : List Value} {sn : List Str} {sub : List Value} {ab : Bool} {col : Option Bool} {dd : Option Addr} {k0 k1 k2 k3 k5 : Option Value} {ccl cl : Value} {cdd cld : Option Addr} {vs : Array Value} {ccs csl : Array (Option Value)} {file : Str} {tf : Nat}
    (X : K.In h) (G : h.Ns mainGlobals mg) (ck : ckI0 xi.fs st = true) (tp : (P.main.scope.names.lookup ("super" : Str)).isSome = false)
    (bd : ∀ (us : List Value), us.length = (("self" : Str) :: xi.fs).length → bindArgs (PySem.W.fnX "__init__" qual (defArgs st) (defBody st) (defScope st) [(("__class__" : Str), cc)] dV kV doc pm an (.ref c) ct) ⟨us, []⟩ = pure ((("self" : Str) :: xi.fs).zip us))
    (a : PySem.W.nsIn K mainGlobals xi.name = some (some (.ref C)))
    (l : K.lookup C = some (excClassObj nm q C N bs bm true sn sub ab col dd k0 k1 k2 k3 k5 "ValueError.__new__")) (rv : PySem.HandSPX.refsVE bm = true)
    (sa : PySem.W.findIn K (.ref C) "__setattr__" = some (some (.builtin "object.__setattr__"))) (ex : PySem.W.subIn K (.ref C) (.type "BaseException") = some true) (ty : PySem.W.typeIn K (.ref C) = some (.type "type")) (kp : PySem.W.keepIn K (.ref C) = true)
    (ga : PySem.W.findIn K (.ref C) "__getattribute__" = some (some (.builtin "BaseException.__getattribute__"))) (gg : PySem.W.findIn K (.ref C) "__getattr__" = some none) (hd : PySem.W.hasDictIn K C = true)
    (nf : ∀ x ∈ xi.fs, PySem.W.findIn K (.ref C) x = some none)
    (i : PySem.W.findIn K (.ref C) "__init__" = some (some (.ref f))) (ti : PySem.W.typeIn K (.ref f) = some (.type "function"))
    (li : K.lookup f = some ⟨oc, od, .func (PySem.W.fnX "__init__" qual (defArgs st) (defBody st) (defScope st) [(("__class__" : Str), cc)] dV kV doc pm an (.ref c) ct), osl⟩) (ci : PySem.W.codeIn K (.ref c) qual = true)
    (lc : K.lookup c = some ⟨ccl, cdd, .fields vs, ccs⟩) (cv : vs[2]? = some (.str file tf)) (cf : ((P.main.file : Str) == file) = true)
    (le : K.lookup cc = some ⟨cl, cld, .cell (some (.ref C)), csl⟩)
    (mr : PySem.W.mroIn K C (.ref C) = some true) (op : PySem.W.nsIn K cStatics "thirdparty.any" = some none) (al : PySem.W.ks_superIn K C C "__init__" = some (some (.builtin "ValueError.__init__"))) (sv : PySem.W.subIn K (.ref C) (.type "ValueError") = some true)
    (sp : PySem.W.nsIn K mainGlobals "super" = some none) : XOkC P w K mg base 1 xi C := by
  unfold ckI0 at ck
  simp only [Bool.and_eq_true, decide_eq_true_eq] at ck
  obtain ⟨⟨⟨⟨⟨c1, c2⟩, c3⟩, c4⟩, c5⟩, c6⟩ := ck
  have T : OexC K C := ⟨⟨nm, q, N, bs, bm, sn, sub, ab, col, dd, k0, k1, k2, k3, k5, l, rv⟩, sa, ex, ty, kp⟩
  have har : ∃ ar, ((defArgs st).posonlyargs ++ (defArgs st).args).head? = some ar ∧ ar.arg = "self" := by
    split at c4
    · rename_i ar e
      exact ⟨ar, e, by simpa using c4⟩
    · cases c4
  obtain ⟨ar, h1, h2⟩ := har
  have F : SupF P K f c cc C := ⟨⟨oc, od, osl, _, ar, li, h1, h2⟩, ⟨ccl, cdd, vs, ccs, file, tf, lc, cv, cf⟩, ⟨cl, cld, csl, le⟩, mr, op, al, sv, tp⟩
  exact ⟨PySem.W.mg_of X G a, T, ⟨⟨ga, gg, ex, hd⟩, nf, c5⟩, c6, f, _, _, i, ti, init_any c1 li ci ⟨nscope_by c2, c3⟩ F T (PySem.W.mg_none_of X G sp) nf, .all bd⟩
end
/-- a class's statement: its body -/
def clsB : Stmt → List Stmt
  | .ClassDef _ _ _ b _ _ _ _ _ _ _ => b
  | _ => []
theorem mem_lookN {c n : Nat} : ∀ {l : List (Nat × Nat)}, l.lookup c = some n → (c, n) ∈ l
  | [], h => by simp at h
  | (a, b) :: l, h => by
    rw [List.lookup_cons] at h
    by_cases e : c = a
    · subst e
      simp at h
      subst h
      exact List.mem_cons_self ..
    · have : (c == a) = false := by simpa using e
      rw [this] at h
      exact List.mem_cons_of_mem _ (mem_lookN h)
theorem hdk_of {K : PySem.W.Frag} {T : List (Addr × List Str)} {l : List (Nat × Nat)} {Ch : Value} (h : ∀ i C ns, T[i]? = some (C, ns) → (l.lookup i = some ns.length ∧ PySem.W.exmOne K (.ref C) Ch = some true) ∨ (l.lookup i = none ∧ PySem.W.exmOne K (.ref C) Ch = some false)) (h2 : ∀ c n, l.lookup c = some n → ∃ C ns, T[c]? = some (C, ns)) : HdK K T l Ch := by
  constructor
  · intro c n e
    obtain ⟨C, ns, q⟩ := h2 c n e
    rcases h c C ns q with ⟨h1, h3⟩ | ⟨h1, _⟩
    · rw [h1] at e
      exact ⟨C, ns, q, by injection e, h3⟩
    · rw [h1] at e
      cases e
  · intro c e C ns q
    rcases h c C ns q with ⟨h1, h3⟩ | ⟨_, h3⟩
    · rw [h1] at e
      cases e
    · exact h3
theorem along_of {K : PySem.W.Frag} {C D : Addr} {c1 c2 : ClassData} {n : Str} {r : Option Value} (h1 : PySem.W.clsIn K C = some c1) (h2 : PySem.W.clsIn K D = some c2) (h3 : (c1.mro.dropWhile (· != .ref C)).drop 1 = c2.mro) (h4 : PySem.W.findIn K (.ref D) n = some r) : PySem.W.ks_superIn K C C n = some r := by
  obtain ⟨cd, e1, e2⟩ := PySem.W.kw_along h4
  rw [h2] at e1
  cases e1
  show (PySem.W.clsIn K C).bind _ = _
  rw [h1]
  show PySem.W.alongIn K n ((c1.mro.dropWhile (· != .ref C)).drop 1) = some r
  rw [h3]
  exact e2
theorem kitCls_of {K : PySem.W.Frag} {C D : Addr} {b : Bool} (h2 : PySem.W.isClsIn K D = true) (h3 : PySem.W.typeIn K (.ref D) = some (.type "type")) (h4 : PySem.W.subIn K (.ref C) (.ref D) = some b) : PySem.W.kitCls K (.ref C) (.ref D) = some b := by
  have e2 : ((PySem.W.clsIn K D).isSome && PySem.W.typeIn K (.ref D) == some (.type "type")) = true := by
    have h2' : (PySem.W.clsIn K D).isSome = true := h2
    rw [h2', h3]
    rfl
  show (if ((PySem.W.clsIn K D).isSome && PySem.W.typeIn K (.ref D) == some (.type "type")) = true then PySem.W.subIn K (.ref C) (.ref D) else none) = some b
  rw [if_pos e2]
  exact h4
theorem exm_ofD {K : PySem.W.Frag} {C D : Addr} {b : Bool} (h1 : PySem.W.subIn K (.ref D) (.type "BaseException") = some true) (h2 : PySem.W.isClsIn K D = true) (h3 : PySem.W.typeIn K (.ref D) = some (.type "type")) (h4 : PySem.W.subIn K (.ref C) (.ref D) = some b) : PySem.W.exmOne K (.ref C) (.ref D) = some b := by
  have e1 : (PySem.W.subIn K (.ref D) (.type "BaseException") == some true) = true := by rw [h1]; rfl
  show (if (PySem.W.subIn K (.ref D) (.type "BaseException") == some true) = true then PySem.W.kitCls K (.ref C) (.ref D) else none) = some b
  rw [if_pos e1]
  exact kitCls_of h2 h3 h4
theorem kit_ofD {K : PySem.W.Frag} {C D : Addr} (h2 : PySem.W.isClsIn K D = true) (h3 : PySem.W.typeIn K (.ref D) = some (.type "type")) (h4 : PySem.W.subIn K (.ref C) (.ref D) = some true) : PySem.W.kitOne K (.ref C) (.ref D) = some true := by
  unfold PySem.W.kitOne
  split
  · rfl
  · exact kitCls_of h2 h3 h4
/-- all of them -/
theorem exs_mk {P : Program} {w : World} {K : PySem.W.Frag} {mg : Str → Option Value} {cs : CsT} (T : List (Addr × List Str)) (cls : ∀ base (i : Nat) (xi : XI), cs.x[i]? = some xi → ∃ C, T[i]? = some (C, xi.fs) ∧ XOkC P w K mg base 1 xi C)
    (hdl : ∀ p ∈ cs.h, ∃ Ch, mg p.1 = some Ch ∧ HdK K T p.2 Ch) (grd : ∀ p ∈ cs.g, ∃ CD, mg p.1 = some (.ref CD) ∧ ∀ k ∈ p.2, ∀ C ns, T[k]? = some (C, ns) → PySem.W.kitOne K (.ref C) (.ref CD) = some true) :
    ∃ T, ∀ base, ExsOk P w K mg base (eoX T) cs T := ⟨T, fun base => ⟨rfl, cls base, hdl, grd⟩⟩
end Y

/-! K10: reasoning about runs -/
namespace Y
open PySem

/-- what may be raised: nothing -/
def noX : Nat → List PV → Prop := fun _ _ => False
def Wp0 {α} (Xc : Nat → List PV → Prop) (m : M α) (h : Hh) (Φ : α → Hh → Prop) : Prop := match m h with | .ok a h' => Φ a h' | .ex c fs _ => Xc c fs | .err => False
/-- the run ends well, as Φ says, or raises, as Xc says (a structure, so that it is never run by unfolding) -/
structure WpX {α} (Xc : Nat → List PV → Prop) (m : M α) (h : Hh) (Φ : α → Hh → Prop) : Prop where
  out : Wp0 Xc m h Φ
abbrev Wp {α} (m : M α) (h : Hh) (Φ : α → Hh → Prop) : Prop := WpX noX m h Φ
theorem Wp_iff {α} {Xc : Nat → List PV → Prop} {m : M α} {h : Hh} {Φ : α → Hh → Prop} : WpX Xc m h Φ ↔ Wp0 Xc m h Φ := ⟨fun p => p.out, fun p => ⟨p⟩⟩
theorem wpi {α} {Xc : Nat → List PV → Prop} {m : M α} {h : Hh} {Φ : α → Hh → Prop} {X : Prop} (p : Wp0 Xc m h Φ ↔ X) : WpX Xc m h Φ ↔ X := Wp_iff.trans p
def OW0 {α} (o : Option α) (Φ : α → Prop) : Prop := match o with | some a => Φ a | none => False
/-- there is one, as Φ says (a structure, for the same reason) -/
structure OW {α} (o : Option α) (Φ : α → Prop) : Prop where
  out : OW0 o Φ
theorem OW_iff {α} {o : Option α} {Φ : α → Prop} : OW o Φ ↔ OW0 o Φ := ⟨fun p => p.out, fun p => ⟨p⟩⟩
theorem toOW {α} {o : Option α} {Φ : α → Prop} {X : Prop} (h : X ↔ OW0 o Φ) : X ↔ OW o Φ := h.trans OW_iff.symm
section
variable {α β : Type} {Xc : Nat → List PV → Prop} {m : M α} {k : α → M β} {h : Hh} {cf : CF} {env : Ev}
@[simp] theorem OW_some {a : α} {Φ : α → Prop} : OW (some a) Φ ↔ Φ a := OW_iff
@[simp] theorem OW_none {Φ : α → Prop} : OW none Φ ↔ False := OW_iff
@[simp] theorem OW_ite {c : Prop} [Decidable c] {a b : Option α} {Φ : α → Prop} : OW (if c then a else b) Φ ↔ if c then OW a Φ else OW b Φ := by split <;> rfl
@[simp] theorem OW_map {o : Option α} {f : α → β} {Φ : β → Prop} : OW (o.map f) Φ ↔ OW o fun a => Φ (f a) := by
  cases o with
  | none => rw [Option.map_none, OW_none, OW_none]
  | some a => rw [Option.map_some, OW_some, OW_some]
@[simp] theorem OW_bind {o : Option α} {f : α → Option β} {Φ : β → Prop} : OW (o.bind f) Φ ↔ OW o fun a => OW (f a) Φ := by
  cases o with
  | none => rw [Option.bind_none, OW_none, OW_none]
  | some a => rw [Option.bind_some, OW_some]
theorem OW_mono {o : Option α} {Φ Ψ : α → Prop} (p : OW o Φ) (f : ∀ a, Φ a → Ψ a) : OW o Ψ := by
  cases o with
  | none => exact (OW_none.mp p).elim
  | some a => exact OW_some.mpr (f a (OW_some.mp p))
@[simp] theorem Wp_bind {Φ : β → Hh → Prop} : WpX Xc (m >>= k) h Φ ↔ WpX Xc m h fun a h' => WpX Xc (k a) h' Φ := by
  rw [Wp_iff, Wp_iff]
  show (match (match m h with | .ok a h' => k a h' | .ex c fs h' => .ex c fs h' | .err => .err : R β) with | .ok a h' => Φ a h' | .ex c fs _ => Xc c fs | .err => False) ↔ _
  unfold Wp0
  cases m h with
  | ok a h' => exact Wp_iff.symm
  | ex c fs h' => rfl
  | err => rfl
@[simp] theorem Wp_pure {a : α} {Φ : α → Hh → Prop} : WpX Xc (pure a) h Φ ↔ Φ a h := wpi Iff.rfl
@[simp] theorem Wp_err {Φ : α → Hh → Prop} : WpX Xc M.err h Φ ↔ False := wpi Iff.rfl
@[simp] theorem Wp_lift {o : Option α} {Φ : α → Hh → Prop} : WpX Xc (lift o) h Φ ↔ OW o fun a => Φ a h := (wpi (by cases o <;> rfl)).trans OW_iff.symm
theorem Wp_mono {Φ Ψ : α → Hh → Prop} (p : WpX Xc m h Φ) (f : ∀ a h', Φ a h' → Ψ a h') : WpX Xc m h Ψ := by
  rw [Wp_iff] at *
  unfold Wp0 at *
  cases q : m h with
  | ok a h' => rw [q] at p; exact f a h' p
  | ex c fs h' => rw [q] at p; exact p
  | err => rw [q] at p; exact p
theorem Wp_of {Φ : α → Hh → Prop} {a : α} {h' : Hh} (e : m h = .ok a h') (p : Φ a h') : WpX Xc m h Φ := by rw [Wp_iff]; unfold Wp0; rw [e]; exact p
theorem Wp_ok {Φ : α → Hh → Prop} (p : Wp m h Φ) : ∃ a h', m h = .ok a h' ∧ Φ a h' := by
  have p := Wp_iff.mp p
  unfold Wp0 at p
  cases q : m h with
  | ok a h' => rw [q] at p; exact ⟨a, h', rfl, p⟩
  | ex c fs h' => rw [q] at p; exact (show False from p).elim
  | err => rw [q] at p; exact p.elim
theorem Wp_eq {a : α} {h' : Hh} (p : Wp m h fun x y => x = a ∧ y = h') : m h = .ok a h' := by
  obtain ⟨x, y, e, rfl, rfl⟩ := Wp_ok p
  exact e
@[simp] theorem Wp_nox {Φ : α → Hh → Prop} : WpX Xc (nox m) h Φ ↔ Wp m h Φ := by
  show WpX Xc (nox m) h Φ ↔ WpX noX m h Φ
  rw [Wp_iff, Wp_iff]
  unfold Wp0 nox
  cases m h <;> rfl

@[simp] theorem Wp_ite {c : Prop} [Decidable c] {a b : M α} {Ψ : α → Hh → Prop} : WpX Xc (if c then a else b) h Ψ ↔ if c then WpX Xc a h Ψ else WpX Xc b h Ψ := by split <;> rfl
/-- what hangs on the heap -/
def wh {α} (f : Hh → Option α) : M α := fun h => lift (f h) h
@[simp] theorem Wp_wh {f : Hh → Option α} {Φ : α → Hh → Prop} : WpX Xc (wh f) h Φ ↔ OW (f h) fun a => Φ a h := by
  have e : WpX Xc (wh f) h Φ ↔ WpX Xc (lift (f h)) h Φ := by rw [Wp_iff, Wp_iff]; rfl
  exact e.trans Wp_lift

/-! expressions -/
variable {Φ : PV → Hh → Prop}
@[simp] theorem W_var {i : Nat} : WpX Xc (evE cf (.var i) env) h Φ ↔ OW (env[i]?.getD none) fun v => Φ v h := by
  rw [Wp_iff]
  unfold Wp0
  rw [evE]
  cases env[i]? with
  | none => exact OW_none.symm
  | some o => cases o with
    | none => exact OW_none.symm
    | some v => exact (OW_some (Φ := fun v => Φ v h)).symm
@[simp] theorem W_non : WpX Xc (evE cf .non env) h Φ ↔ Φ .non h := wpi Iff.rfl
@[simp] theorem W_bl {b : Bool} : WpX Xc (evE cf (.bl b) env) h Φ ↔ Φ (.bl b) h := wpi Iff.rfl
@[simp] theorem W_int {i : Int} : WpX Xc (evE cf (.int i) env) h Φ ↔ Φ (.int i) h := wpi Iff.rfl
@[simp] theorem W_str {x : Str} : WpX Xc (evE cf (.str x) env) h Φ ↔ Φ (.str x) h := wpi Iff.rfl
@[simp] theorem W_tup {es : List E} : WpX Xc (evE cf (.tup es) env) h Φ ↔ WpX Xc (evEs cf es env) h fun vs h => Φ (.tup vs) h := by
  show WpX Xc (evEs cf es env >>= fun vs => pure (PV.tup vs)) h Φ ↔ _
  simp only [Wp_bind, Wp_pure]
@[simp] theorem W_lst {es : List E} : WpX Xc (evE cf (.lst es) env) h Φ ↔ WpX Xc (evEs cf es env) h fun vs h => Φ (.lst vs) h := by
  show WpX Xc (evEs cf es env >>= fun vs => pure (PV.lst vs)) h Φ ↔ _
  simp only [Wp_bind, Wp_pure]
@[simp] theorem W_dct {es : List E} : WpX Xc (evE cf (.dct es) env) h Φ ↔ WpX Xc (evEs cf es env) h fun vs h => OW (dctV vs) fun v => Φ v h :=
  (Wp_bind (m := evEs cf es env) (k := fun vs => lift (dctV vs))).trans (by simp)
@[simp] theorem W_boxM {v : PV} : WpX Xc (boxM v) h Φ ↔ match v with | .lst l => Φ (.ref h.length) (h ++ [.lst l]) | .dct ks vs => Φ (.ref h.length) (h ++ [.dct ks vs]) | _ => False := by
  rw [Wp_iff]
  cases v <;> rfl
@[simp] theorem W_box {e : E} : WpX Xc (evE cf (.box e) env) h Φ ↔ WpX Xc (evE cf e env) h fun v h => WpX Xc (boxM v) h Φ := Wp_bind (m := evE cf e env) (k := boxM)
@[simp] theorem W_bin {o : Op2} {a b : E} : WpX Xc (evE cf (.bin o a b) env) h Φ ↔ WpX Xc (evE cf a env) h fun x h => WpX Xc (evE cf b env) h fun y h => OW (op2 h o x y) fun z => Φ z h := by
  show WpX Xc (evE cf a env >>= fun x => (evE cf b env >>= fun y => wh fun h => op2 h o x y)) h Φ ↔ _
  simp only [Wp_bind, Wp_pure, Wp_wh, OW_map]
@[simp] theorem W_neg {a : E} : WpX Xc (evE cf (.neg a) env) h Φ ↔ WpX Xc (evE cf a env) h fun x h => match x with | .int i => Φ (.int (-i)) h | _ => False := by
  show WpX Xc (evE cf a env >>= fun x => match x with | .int i => pure (.int (-i)) | _ => M.err) h Φ ↔ _
  rw [Wp_bind]
  have : ∀ (x : PV) (h : Hh), WpX Xc (match x with | .int i => pure (.int (-i)) | _ => M.err : M PV) h Φ ↔ match x with | .int i => Φ (.int (-i)) h | _ => False := fun x h => wpi (by cases x <;> rfl)
  simp only [this]
@[simp] theorem W_cmp {o : Cmp} {a b : E} : WpX Xc (evE cf (.cmp o a b) env) h Φ ↔ WpX Xc (evE cf a env) h fun x h => WpX Xc (evE cf b env) h fun y h => OW (cmpV h o x y) fun z => Φ (.bl z) h := by
  show WpX Xc (evE cf a env >>= fun x => (evE cf b env >>= fun y => wh fun h => (cmpV h o x y).map PV.bl)) h Φ ↔ _
  simp only [Wp_bind, Wp_pure, Wp_wh, OW_map]
@[simp] theorem W_chain {o o' : Cmp} {a b c : E} : WpX Xc (evE cf (.chain o o' a b c) env) h Φ ↔ WpX Xc (evE cf a env) h fun x h => WpX Xc (evE cf b env) h fun y h => OW (cmpV h o x y) fun k => if k = true then WpX Xc (evE cf c env) h fun z h => OW (cmpV h o' y z) fun r => Φ (.bl r) h else Φ (.bl false) h := by
  show WpX Xc (evE cf a env >>= fun x => (evE cf b env >>= fun y => ((wh fun h => cmpV h o x y) >>= fun k => if k = true then (evE cf c env >>= fun z => wh fun h => (cmpV h o' y z).map PV.bl) else pure (.bl false)))) h Φ ↔ _
  simp only [Wp_bind, Wp_pure, Wp_wh, OW_map, Wp_ite]
@[simp] theorem W_boo {a : Bool} {es : List E} : WpX Xc (evE cf (.boo a es) env) h Φ ↔ WpX Xc (evB cf a es env) h Φ := Iff.rfl
@[simp] theorem W_boo1 {a : Bool} {e : E} : WpX Xc (evB cf a [e] env) h Φ ↔ WpX Xc (evE cf e env) h Φ := Iff.rfl
@[simp] theorem W_boo2 {a : Bool} {e f : E} {es : List E} : WpX Xc (evB cf a (e :: f :: es) env) h Φ ↔ WpX Xc (evE cf e env) h fun v h => OW (truthy h v) fun b => if b = a then WpX Xc (evB cf a (f :: es) env) h Φ else Φ v h := by
  show WpX Xc (evE cf e env >>= fun v => ((wh fun h => truthy h v) >>= fun b => if b = a then evB cf a (f :: es) env else pure v)) h Φ ↔ _
  simp only [Wp_bind, Wp_wh]
  have t : ∀ (b : Bool) (v : PV) (h : Hh), WpX Xc (if b = a then evB cf a (f :: es) env else pure v) h Φ ↔ if b = a then WpX Xc (evB cf a (f :: es) env) h Φ else Φ v h := by
    intro b v h
    by_cases q : b = a
    · rw [if_pos q, if_pos q]
    · rw [if_neg q, if_neg q]; exact wpi Iff.rfl
  simp only [t]
@[simp] theorem W_not {a : E} : WpX Xc (evE cf (.not a) env) h Φ ↔ WpX Xc (evE cf a env) h fun v h => OW (truthy h v) fun b => Φ (.bl (!b)) h := by
  show WpX Xc (evE cf a env >>= fun v => ((wh fun h => truthy h v) >>= fun b => pure (.bl (!b)))) h Φ ↔ _
  simp only [Wp_bind, Wp_wh, Wp_pure]
@[simp] theorem W_ite {t : T} {a b : E} : WpX Xc (evE cf (.ite t a b) env) h Φ ↔ WpX Xc (evT cf t env) h fun k h => if k = true then WpX Xc (evE cf a env) h Φ else WpX Xc (evE cf b env) h Φ := by
  show WpX Xc (evT cf t env >>= fun k => if k = true then evE cf a env else evE cf b env) h Φ ↔ _
  simp only [Wp_bind, Wp_ite]
@[simp] theorem W_ix {a b : E} : WpX Xc (evE cf (.ix a b) env) h Φ ↔ WpX Xc (evE cf a env) h fun x h => WpX Xc (evE cf b env) h fun y h => OW (ixV h x y) fun z => Φ z h := by
  show WpX Xc (evE cf a env >>= fun x => (evE cf b env >>= fun y => wh fun h => ixV h x y)) h Φ ↔ _
  simp only [Wp_bind, Wp_pure, Wp_wh, OW_map]
@[simp] theorem W_sl {a : E} {lo hi : Option E} : WpX Xc (evE cf (.sl a lo hi) env) h Φ ↔ WpX Xc (evE cf a env) h fun x h => WpX Xc (evO cf lo env) h fun l h => WpX Xc (evO cf hi env) h fun u h => OW (slV h x l u) fun z => Φ z h := by
  show WpX Xc (evE cf a env >>= fun x => (evO cf lo env >>= fun l => (evO cf hi env >>= fun u => wh fun h => slV h x l u))) h Φ ↔ _
  simp only [Wp_bind, Wp_pure, Wp_wh, OW_map]
@[simp] theorem W_rev {a : E} : WpX Xc (evE cf (.rev a) env) h Φ ↔ WpX Xc (evE cf a env) h fun x h => OW (revV h x) fun z => Φ z h := by
  show WpX Xc (evE cf a env >>= fun x => wh fun h => revV h x) h Φ ↔ _
  simp only [Wp_bind, Wp_wh]
@[simp] theorem W_onone {Ψ : Option Int → Hh → Prop} : WpX Xc (evO cf none env) h Ψ ↔ Ψ none h := wpi Iff.rfl
@[simp] theorem W_osome {e : E} {Ψ : Option Int → Hh → Prop} : WpX Xc (evO cf (some e) env) h Ψ ↔ WpX Xc (evE cf e env) h fun v h => OW (asInt v) fun i => Ψ (some i) h := by
  show WpX Xc (evE cf e env >>= fun v => lift ((asInt v).map some)) h Ψ ↔ _
  simp only [Wp_bind, Wp_lift, OW_map]
@[simp] theorem W_bi {b : Bi} {es : List E} : WpX Xc (evE cf (.bi b es) env) h Φ ↔ WpX Xc (evEs cf es env) h fun vs h => OW (bi1 h b vs) fun z => Φ z h := by
  show WpX Xc (evEs cf es env >>= fun vs => wh fun h => bi1 h b vs) h Φ ↔ _
  simp only [Wp_bind, Wp_pure, Wp_wh, OW_map]
@[simp] theorem W_isi {a : E} {t : Ty} : WpX Xc (evE cf (.isi a t) env) h Φ ↔ WpX Xc (evE cf a env) h fun x h => OW (isiV h x t) fun z => Φ (.bl z) h := by
  show WpX Xc (evE cf a env >>= fun x => wh fun h => (isiV h x t).map PV.bl) h Φ ↔ _
  simp only [Wp_bind, Wp_pure, Wp_wh, OW_map]
@[simp] theorem W_mt {m : Mt} {o : E} {es : List E} : WpX Xc (evE cf (.mt m o es) env) h Φ ↔ WpX Xc (evE cf o env) h fun x h => OW (mtT h m x) fun _ => WpX Xc (evEs cf es env) h fun vs h => WpX Xc (mtV m x vs) h Φ := by
  show WpX Xc (evE cf o env >>= fun x => ((wh fun h => mtT h m x) >>= fun _ => (evEs cf es env >>= fun vs => mtV m x vs))) h Φ ↔ _
  simp only [Wp_bind, Wp_pure, Wp_wh, OW_map]
@[simp] theorem W_call {r : Bool} {f : Nat} {es : List E} : WpX Xc (evE cf (.call r f es) env) h Φ ↔ WpX Xc (evEs cf es env) h fun vs h => WpX Xc (callM cf r f vs) h Φ := Wp_bind (m := evEs cf es env) (k := fun vs => callM cf r f vs)
@[simp] theorem W_callk {r : Bool} {f : Nat} {perm : List Nat} {es : List E} : WpX Xc (evE cf (.callk r f perm es) env) h Φ ↔ WpX Xc (evEs cf es env) h fun vs h => OW (permL perm vs) fun ws => WpX Xc (callM cf r f ws) h Φ := by
  show WpX Xc (evEs cf es env >>= fun vs => match permL perm vs with | some ws => callM cf r f ws | none => M.err) h Φ ↔ _
  rw [Wp_bind]
  have : ∀ (vs : List PV) (h : Hh), WpX Xc (match permL perm vs with | some ws => callM cf r f ws | none => M.err) h Φ ↔ OW (permL perm vs) fun ws => WpX Xc (callM cf r f ws) h Φ := fun vs h => by cases permL perm vs <;> first | exact (wpi Iff.rfl).trans OW_none.symm | exact (OW_some (Φ := fun ws => WpX Xc (callM cf r f ws) h Φ)).symm
  simp only [this]
@[simp] theorem W_lrng1 {b : Bool} {a : E} : WpX Xc (evE cf (.lrng1 b a) env) h Φ ↔ WpX Xc (evE cf a env) h fun x h => OW (rng1V x) fun l => Φ (if b = true then .tup l else .lst l) h := by
  show WpX Xc (evE cf a env >>= fun x => lift ((rng1V x).map fun l => if b = true then .tup l else .lst l)) h Φ ↔ _
  simp only [Wp_bind, Wp_lift, OW_map]
@[simp] theorem W_lrng2 {b : Bool} {a c : E} : WpX Xc (evE cf (.lrng2 b a c) env) h Φ ↔ WpX Xc (evE cf a env) h fun x h => WpX Xc (evE cf c env) h fun y h => OW (rng2V x y) fun l => Φ (if b = true then .tup l else .lst l) h := by
  show WpX Xc (evE cf a env >>= fun x => (evE cf c env >>= fun y => lift ((rng2V x y).map fun l => if b = true then .tup l else .lst l))) h Φ ↔ _
  simp only [Wp_bind, Wp_lift, OW_map]
@[simp] theorem W_lrng3 {b : Bool} {a c d : E} : WpX Xc (evE cf (.lrng3 b a c d) env) h Φ ↔ WpX Xc (evE cf a env) h fun x h => WpX Xc (evE cf c env) h fun y h => WpX Xc (evE cf d env) h fun z h => OW (rng3V x y z) fun l => Φ (if b = true then .tup l else .lst l) h := by
  show WpX Xc (evE cf a env >>= fun x => (evE cf c env >>= fun y => (evE cf d env >>= fun z => lift ((rng3V x y z).map fun l => if b = true then .tup l else .lst l)))) h Φ ↔ _
  simp only [Wp_bind, Wp_lift, OW_map]
@[simp] theorem W_cst {n : Str} {v : PV} : WpX Xc (evE cf (.cst n v) env) h Φ ↔ Φ v h := wpi Iff.rfl
@[simp] theorem W_nil {Ψ : List PV → Hh → Prop} : WpX Xc (evEs cf [] env) h Ψ ↔ Ψ [] h := wpi Iff.rfl
@[simp] theorem W_cons {e : E} {es : List E} {Ψ : List PV → Hh → Prop} : WpX Xc (evEs cf (e :: es) env) h Ψ ↔ WpX Xc (evE cf e env) h fun v h => WpX Xc (evEs cf es env) h fun vs h => Ψ (v :: vs) h := by
  show WpX Xc (evE cf e env >>= fun v => (evEs cf es env >>= fun vs => pure (v :: vs))) h Ψ ↔ _
  simp only [Wp_bind, Wp_pure]
/-- one turn of a comprehension -/
def turn1 (cf : CF) (t : Tg) (ifs : List T) (elt : E) (e0 : Ev) (v : PV) : M (Option PV) := do
  let e1 ← lift (bindT t v e0)
  if ← evB1 cf ifs e1 then (do let y ← evE cf elt e1; pure (some y)) else pure none
@[simp] theorem W_comp1 {t : Tg} {it : I} {ifs : List T} {elt : E} {own : List Nat} : WpX Xc (evE cf (.comp1 t it ifs elt own) env) h Φ ↔ WpX Xc (evI cf it env) h fun lg h => Wp (mapG lg.2 (turn1 cf t ifs elt (wipe env own)) lg.1) h fun ys h => Φ (.lst ys) h := by
  show WpX Xc (evI cf it env >>= fun lg => (nox (mapG lg.2 (turn1 cf t ifs elt (wipe env own)) lg.1) >>= fun ys => pure (.lst ys))) h Φ ↔ _
  simp only [Wp_bind, Wp_pure, Wp_nox]
@[simp] theorem W_turn1 {t : Tg} {ifs : List T} {elt : E} {e0 : Ev} {v : PV} {Ψ : Option PV → Hh → Prop} : WpX Xc (turn1 cf t ifs elt e0 v) h Ψ ↔ OW (bindT t v e0) fun e1 => WpX Xc (evB1 cf ifs e1) h fun b h => if b = true then WpX Xc (evE cf elt e1) h fun y h => Ψ (some y) h else Ψ none h := by
  unfold turn1
  simp only [Wp_bind, Wp_lift, Wp_ite, Wp_pure]
@[simp] theorem W_1nil {Ψ : Bool → Hh → Prop} : WpX Xc (evB1 cf [] env) h Ψ ↔ Ψ true h := wpi Iff.rfl
@[simp] theorem W_1one {t : T} {Ψ : Bool → Hh → Prop} : WpX Xc (evB1 cf [t] env) h Ψ ↔ WpX Xc (evT cf t env) h Ψ := by
  show WpX Xc (evT cf t env >>= fun b => if b = true then pure true else pure false) h Ψ ↔ _
  rw [Wp_bind]
  have : ∀ (b : Bool) (h : Hh), WpX Xc (if b = true then pure true else pure false : M Bool) h Ψ ↔ Ψ b h := fun b h => by cases b <;> exact wpi Iff.rfl
  simp only [this]
/-- one turn of a comprehension's outer clause -/
def turn2 (cf : CF) (t : Tg) (ifs : List T) (t1 : Tg) (it1 : I) (ifs1 : List T) (elt : E) (own1 : List Nat) (e0 : Ev) (v : PV) : M (List PV) := do
  let e1 ← lift (bindT t v e0)
  if ← evB1 cf ifs e1 then (do
    let lg1 ← evI cf it1 e1
    mapG lg1.2 (turn1 cf t1 ifs1 elt (wipe e1 own1)) lg1.1) else pure []
@[simp] theorem W_comp2 {t t1 : Tg} {it it1 : I} {ifs ifs1 : List T} {elt : E} {own own1 : List Nat} : WpX Xc (evE cf (.comp2 t it ifs t1 it1 ifs1 elt own own1) env) h Φ ↔ WpX Xc (evI cf it env) h fun lg h => Wp (bindG lg.2 (turn2 cf t ifs t1 it1 ifs1 elt own1 (wipe env own)) lg.1) h fun ys h => ys.length ≤ SZ ∧ Φ (.lst ys) h := by
  show WpX Xc (evI cf it env >>= fun lg => (nox (bindG lg.2 (turn2 cf t ifs t1 it1 ifs1 elt own1 (wipe env own)) lg.1 >>= sizeM) >>= fun ys => pure (.lst ys))) h Φ ↔ _
  have t : ∀ (ys : List PV) (h : Hh) (Ψ : List PV → Hh → Prop), WpX noX (sizeM ys) h Ψ ↔ ys.length ≤ SZ ∧ Ψ ys h := by
    intro ys h Ψ
    unfold sizeM
    rw [Wp_lift]
    by_cases c : ys.length ≤ SZ
    · simp [c]
    · simp [c]
  simp only [Wp_bind, Wp_pure, Wp_nox, t]
@[simp] theorem W_turn2 {t t1 : Tg} {it1 : I} {ifs ifs1 : List T} {elt : E} {own1 : List Nat} {e0 : Ev} {v : PV} {Ψ : List PV → Hh → Prop} : WpX Xc (turn2 cf t ifs t1 it1 ifs1 elt own1 e0 v) h Ψ ↔ OW (bindT t v e0) fun e1 => WpX Xc (evB1 cf ifs e1) h fun b h => if b = true then WpX Xc (evI cf it1 e1) h fun lg1 h => WpX Xc (mapG lg1.2 (turn1 cf t1 ifs1 elt (wipe e1 own1)) lg1.1) h Ψ else Ψ [] h := by
  unfold turn2
  simp only [Wp_bind, Wp_lift, Wp_ite, Wp_pure]
/-- one turn of a dict's comprehension -/
def turnD (cf : CF) (t : Tg) (ifs : List T) (k v : E) (e0 : Ev) (x : PV) : M (Option PV) := do
  let e1 ← lift (bindT t x e0)
  if ← evB1 cf ifs e1 then (do let y ← evE cf k e1; let z ← evE cf v e1; lift (if isKey y = true then some (some (PV.tup [y, z])) else none)) else pure none
@[simp] theorem W_dcomp {t : Tg} {it : I} {ifs : List T} {k v : E} {own : List Nat} : WpX Xc (evE cf (.dcomp t it ifs k v own) env) h Φ ↔ WpX Xc (evI cf it env) h fun lg h => Wp (mapG lg.2 (turnD cf t ifs k v (wipe env own)) lg.1) h fun ys h => OW (dctP ys) fun z => Φ z h := by
  show WpX Xc (evI cf it env >>= fun lg => (nox (mapG lg.2 (turnD cf t ifs k v (wipe env own)) lg.1) >>= fun ys => lift (dctP ys))) h Φ ↔ _
  simp only [Wp_bind, Wp_lift, Wp_nox]
@[simp] theorem W_turnD {t : Tg} {ifs : List T} {k v : E} {e0 : Ev} {x : PV} {Ψ : Option PV → Hh → Prop} : WpX Xc (turnD cf t ifs k v e0 x) h Ψ ↔ OW (bindT t x e0) fun e1 => WpX Xc (evB1 cf ifs e1) h fun b h => if b = true then WpX Xc (evE cf k e1) h fun y h => WpX Xc (evE cf v e1) h fun z h => isKey y = true ∧ Ψ (some (.tup [y, z])) h else Ψ none h := by
  unfold turnD
  have : ∀ (y z : PV) (h : Hh), OW (if isKey y = true then some (some (PV.tup [y, z])) else none) (fun a => Ψ a h) ↔ isKey y = true ∧ Ψ (some (.tup [y, z])) h := fun y z h => by
    by_cases c : isKey y = true
    · rw [if_pos c]; simp [c]
    · rw [if_neg c]; simp [c]
  simp only [Wp_bind, Wp_lift, Wp_ite, Wp_pure, this]
@[simp] theorem W_get2 {o k z : E} : WpX Xc (evE cf (.get2 o k z) env) h Φ ↔ WpX Xc (evE cf o env) h fun x h => OW ((dctOf h x).map fun _ => ()) fun _ => WpX Xc (evE cf k env) h fun y h => WpX Xc (evE cf z env) h fun w h => OW (get2V h x y w) fun v => Φ v h := by
  show WpX Xc (evE cf o env >>= fun x => ((wh fun h => (dctOf h x).map fun _ => ()) >>= fun _ => (evE cf k env >>= fun y => (evE cf z env >>= fun w => wh fun h => get2V h x y w)))) h Φ ↔ _
  simp only [Wp_bind, Wp_wh]
@[simp] theorem W_lset {e : E} : WpX Xc (evE cf (.lset e) env) h Φ ↔ WpX Xc (evE cf e env) h fun x h => OW (lsetV h x) fun i => Φ (.int i) h := by
  show WpX Xc (evE cf e env >>= fun x => wh fun h => (lsetV h x).map PV.int) h Φ ↔ _
  simp only [Wp_bind, Wp_wh, OW_map]
/-! tests -/
variable {Ψ : Bool → Hh → Prop}
@[simp] theorem T_boo {a : Bool} {es : List T} : WpX Xc (evT cf (.boo a es) env) h Ψ ↔ WpX Xc (evBT cf a es env) h Ψ := Iff.rfl
@[simp] theorem T_nil {a : Bool} : WpX Xc (evBT cf a [] env) h Ψ ↔ Ψ a h := wpi Iff.rfl
@[simp] theorem T_cons {a : Bool} {e : T} {es : List T} : WpX Xc (evBT cf a (e :: es) env) h Ψ ↔ WpX Xc (evT cf e env) h fun b h => if b = a then WpX Xc (evBT cf a es env) h Ψ else Ψ b h := by
  show WpX Xc (evT cf e env >>= fun b => if b = a then evBT cf a es env else pure b) h Ψ ↔ _
  simp only [Wp_bind, Wp_ite, Wp_pure]
@[simp] theorem T_not {a : T} : WpX Xc (evT cf (.not a) env) h Ψ ↔ WpX Xc (evT cf a env) h fun b h => Ψ (!b) h := by
  show WpX Xc (evT cf a env >>= fun b => pure (!b)) h Ψ ↔ _
  simp only [Wp_bind, Wp_pure]
@[simp] theorem T_val {e : E} : WpX Xc (evT cf (.val e) env) h Ψ ↔ WpX Xc (evE cf e env) h fun v h => OW (truthy h v) fun b => Ψ b h := by
  show WpX Xc (evE cf e env >>= fun v => wh fun h => truthy h v) h Ψ ↔ _
  simp only [Wp_bind, Wp_wh]
/-! what is walked -/
variable {Θ : List PV × (Hh → Bool) → Hh → Prop}
@[simp] theorem I_seq {e : E} : WpX Xc (evI cf (.seq e) env) h Θ ↔ WpX Xc (evE cf e env) h fun x h => OW (iterOf h x) fun l => Θ (l, grd x l) h := by
  show WpX Xc (evE cf e env >>= fun x => ((wh fun h => iterOf h x) >>= fun l => pure (l, grd x l))) h Θ ↔ _
  simp only [Wp_bind, Wp_pure, Wp_wh, OW_map]
@[simp] theorem I_rng1 {e : E} : WpX Xc (evI cf (.rng1 e) env) h Θ ↔ WpX Xc (evE cf e env) h fun x h => OW (rng1V x) fun l => Θ (l, fun _ => true) h := by
  show WpX Xc (evE cf e env >>= fun x => (lift (rng1V x) >>= fun l => pure (l, fun _ => true))) h Θ ↔ _
  simp only [Wp_bind, Wp_pure, Wp_lift]
@[simp] theorem I_rng2 {e f : E} : WpX Xc (evI cf (.rng2 e f) env) h Θ ↔ WpX Xc (evE cf e env) h fun x h => WpX Xc (evE cf f env) h fun y h => OW (rng2V x y) fun l => Θ (l, fun _ => true) h := by
  show WpX Xc (evE cf e env >>= fun x => (evE cf f env >>= fun y => (lift (rng2V x y) >>= fun l => pure (l, fun _ => true)))) h Θ ↔ _
  simp only [Wp_bind, Wp_pure, Wp_lift]
@[simp] theorem I_rng3 {e f g : E} : WpX Xc (evI cf (.rng3 e f g) env) h Θ ↔ WpX Xc (evE cf e env) h fun x h => WpX Xc (evE cf f env) h fun y h => WpX Xc (evE cf g env) h fun z h => OW (rng3V x y z) fun l => Θ (l, fun _ => true) h := by
  show WpX Xc (evE cf e env >>= fun x => (evE cf f env >>= fun y => (evE cf g env >>= fun z => (lift (rng3V x y z) >>= fun l => pure (l, fun _ => true))))) h Θ ↔ _
  simp only [Wp_bind, Wp_pure, Wp_lift]
@[simp] theorem I_txt {e : E} : WpX Xc (evI cf (.txt e) env) h Θ ↔ WpX Xc (evE cf e env) h fun x h => OW (txtL x) fun l => Θ (l, fun _ => true) h := by
  show WpX Xc (evE cf e env >>= fun x => (lift (txtL x) >>= fun l => pure (l, fun _ => true))) h Θ ↔ _
  simp only [Wp_bind, Wp_lift, Wp_pure]
@[simp] theorem I_enum {e : E} : WpX Xc (evI cf (.enum e) env) h Θ ↔ WpX Xc (evE cf e env) h fun x h => OW (iterOf h x) fun l => Θ (enumL 0 l, grd x l) h := by
  show WpX Xc (evE cf e env >>= fun x => ((wh fun h => iterOf h x) >>= fun l => pure (enumL 0 l, grd x l))) h Θ ↔ _
  simp only [Wp_bind, Wp_pure, Wp_wh, OW_map]
@[simp] theorem I_etxt {e : E} : WpX Xc (evI cf (.etxt e) env) h Θ ↔ WpX Xc (evE cf e env) h fun x h => OW (txtL x) fun l => Θ (enumL 0 l, fun _ => true) h := by
  show WpX Xc (evE cf e env >>= fun x => (lift (txtL x) >>= fun l => pure (enumL 0 l, fun _ => true))) h Θ ↔ _
  simp only [Wp_bind, Wp_lift, Wp_pure]
@[simp] theorem I_zip {e f : E} : WpX Xc (evI cf (.zip e f) env) h Θ ↔ WpX Xc (evE cf e env) h fun x h => WpX Xc (evE cf f env) h fun y h => OW (zipOf h x y) fun l => Θ (zipL l.1 l.2, fun h => grd x l.1 h && grd y l.2 h) h := by
  show WpX Xc (evE cf e env >>= fun x => (evE cf f env >>= fun y => ((wh fun h => zipOf h x y) >>= fun l => pure (zipL l.1 l.2, fun h => grd x l.1 h && grd y l.2 h)))) h Θ ↔ _
  simp only [Wp_bind, Wp_pure, Wp_wh, OW_map]
/-! statements -/
variable {Γ : Fl → Hh → Prop}
@[simp] theorem S_nil : WpX Xc (evSs cf [] env) h Γ ↔ Γ (.nx env) h := wpi Iff.rfl
@[simp] theorem S_cons {s : S} {ss : List S} : WpX Xc (evSs cf (s :: ss) env) h Γ ↔ WpX Xc (evS cf s env) h fun f h => match f with | .nx e => WpX Xc (evSs cf ss e) h Γ | r => Γ r h := by
  show WpX Xc (evS cf s env >>= fun f => seqF (evSs cf ss) f) h Γ ↔ _
  rw [Wp_bind]
  have : ∀ (f : Fl) (h : Hh), WpX Xc (seqF (evSs cf ss) f) h Γ ↔ match f with | .nx e => WpX Xc (evSs cf ss e) h Γ | r => Γ r h := fun f h => by cases f <;> first | rfl | exact wpi Iff.rfl
  simp only [this]
@[simp] theorem S_asg {t : Tg} {e : E} : WpX Xc (evS cf (.asg t e) env) h Γ ↔ WpX Xc (evE cf e env) h fun v h => OW (bindT t v env) fun e1 => Γ (.nx e1) h := by
  show WpX Xc (evE cf e env >>= fun v => lift ((bindT t v env).map .nx)) h Γ ↔ _
  simp only [Wp_bind, Wp_lift, OW_map]
@[simp] theorem S_par {is : List Nat} {es : List E} : WpX Xc (evS cf (.par is es) env) h Γ ↔ WpX Xc (evEs cf es env) h fun vs h => vs.length = is.length ∧ Γ (.nx (setsE env is vs)) h := by
  show WpX Xc (evEs cf es env >>= fun vs => lift (if vs.length = is.length then some (.nx (setsE env is vs)) else none)) h Γ ↔ _
  simp only [Wp_bind, Wp_lift, OW_ite, OW_some, OW_none]
  have : ∀ (p q : Prop) [Decidable p], (if p then q else False) ↔ p ∧ q := fun p q _ => by split <;> simp_all
  simp only [this]
@[simp] theorem S_sub {o i e : E} : WpX Xc (evS cf (.sub o i e) env) h Γ ↔ WpX Xc (evE cf e env) h fun v h => WpX Xc (evE cf o env) h fun x h => WpX Xc (evE cf i env) h fun y h => WpX Xc (setV x y v) h fun _ h => Γ (.nx env) h := by
  show WpX Xc (evE cf e env >>= fun v => (evE cf o env >>= fun x => (evE cf i env >>= fun y => (setV x y v >>= fun _ => pure (.nx env))))) h Γ ↔ _
  simp only [Wp_bind, Wp_pure]
@[simp] theorem S_exp {e : E} : WpX Xc (evS cf (.exp e) env) h Γ ↔ WpX Xc (evE cf e env) h fun _ h => Γ (.nx env) h := by
  show WpX Xc (evE cf e env >>= fun _ => pure (.nx env)) h Γ ↔ _
  simp only [Wp_bind, Wp_pure]
@[simp] theorem S_ret {e : E} : WpX Xc (evS cf (.ret e) env) h Γ ↔ WpX Xc (evE cf e env) h fun v h => Γ (.rt v) h := by
  show WpX Xc (evE cf e env >>= fun v => pure (.rt v)) h Γ ↔ _
  simp only [Wp_bind, Wp_pure]
@[simp] theorem S_retn : WpX Xc (evS cf .retn env) h Γ ↔ Γ (.rt .non) h := wpi Iff.rfl
@[simp] theorem S_ite {t : T} {a b : List S} : WpX Xc (evS cf (.ite t a b) env) h Γ ↔ WpX Xc (evT cf t env) h fun k h => if k = true then WpX Xc (evSs cf a env) h Γ else WpX Xc (evSs cf b env) h Γ := by
  show WpX Xc (evT cf t env >>= fun k => if k = true then evSs cf a env else evSs cf b env) h Γ ↔ _
  simp only [Wp_bind, Wp_ite]
@[simp] theorem S_whl {t : T} {b : List S} : WpX Xc (evS cf (.whl t b) env) h Γ ↔ WpX Xc (whileF (evT cf t) (evSs cf b) WF env) h Γ := Iff.rfl
@[simp] theorem S_for {t : Tg} {it : I} {b : List S} : WpX Xc (evS cf (.for_ t it b) env) h Γ ↔ WpX Xc (evI cf it env) h fun lg h => WpX Xc (forG lg.2 (forB t (evSs cf b)) lg.1 env) h Γ := Wp_bind (m := evI cf it env) (k := fun lg => forG lg.2 (forB t (evSs cf b)) lg.1 env)
@[simp] theorem S_pass : WpX Xc (evS cf .pass env) h Γ ↔ Γ (.nx env) h := wpi Iff.rfl
@[simp] theorem S_brk : WpX Xc (evS cf .brk env) h Γ ↔ Γ (.bk env) h := wpi Iff.rfl
@[simp] theorem S_cnt : WpX Xc (evS cf .cnt env) h Γ ↔ Γ (.ct env) h := wpi Iff.rfl
@[simp] theorem S_try {b : List S} : WpX Xc (evS cf (.tryN b) env) h Γ ↔ Wp (evSs cf b env) h Γ := Wp_nox
@[simp] theorem S_aug {i : Nat} {o : Op2} {e : E} : WpX Xc (evS cf (.aug i o e) env) h Γ ↔ OW (env[i]?.getD none) fun x => WpX Xc (evE cf e env) h fun y h => OW (augV o x y) fun z => Γ (.nx (env.set i (some z))) h := by
  show WpX Xc (evE cf (.var i) env >>= fun x => (evE cf e env >>= fun y => wh fun h => (augV o x y).map fun z => Fl.nx (env.set i (some z)))) h Γ ↔ _
  simp only [Wp_bind, Wp_wh, W_var, OW_map]
@[simp] theorem augV_add {i j : Int} : augV .add (.int i) (.int j) = some (.int (i + j)) := rfl
@[simp] theorem augV_sub {i j : Int} : augV .sub (.int i) (.int j) = some (.int (i - j)) := rfl
/-- two stores of a pair -/
def swpM (cf : CF) (o1 i1 o2 i2 : E) (env : Ev) (v : PV) : M Fl := match v with
  | .tup [a, b] => do
    let x ← evE cf o1 env
    let y ← evE cf i1 env
    setV x y a
    let x2 ← evE cf o2 env
    let y2 ← evE cf i2 env
    setV x2 y2 b
    pure (.nx env)
  | _ => M.err
@[simp] theorem S_swp {o1 i1 o2 i2 e : E} : WpX Xc (evS cf (.swp o1 i1 o2 i2 e) env) h Γ ↔ WpX Xc (evE cf e env) h fun v h => WpX Xc (swpM cf o1 i1 o2 i2 env v) h Γ := by
  show WpX Xc (evE cf e env >>= fun v => swpM cf o1 i1 o2 i2 env v) h Γ ↔ _
  simp only [Wp_bind]
@[simp] theorem swp_two {o1 i1 o2 i2 : E} {a b : PV} : WpX Xc (swpM cf o1 i1 o2 i2 env (.tup [a, b])) h Γ ↔ WpX Xc (evE cf o1 env) h fun x h => WpX Xc (evE cf i1 env) h fun y h => WpX Xc (setV x y a) h fun _ h => WpX Xc (evE cf o2 env) h fun x h => WpX Xc (evE cf i2 env) h fun y h => WpX Xc (setV x y b) h fun _ h => Γ (.nx env) h := by
  show WpX Xc (evE cf o1 env >>= fun x => (evE cf i1 env >>= fun y => (setV x y a >>= fun _ => (evE cf o2 env >>= fun x => (evE cf i2 env >>= fun y => (setV x y b >>= fun _ => (pure (Fl.nx env) : M Fl))))))) h Γ ↔ _
  simp only [Wp_bind, Wp_pure]
@[simp] theorem W_forB {t : Tg} {b : List S} {v : PV} : WpX Xc (forB t (evSs cf b) v env) h Γ ↔ OW (bindT t v env) fun e1 => WpX Xc (evSs cf b e1) h Γ := by
  unfold forB
  cases bindT t v env <;> first | exact (wpi Iff.rfl).trans OW_none.symm | exact (OW_some (Φ := fun e1 => WpX Xc (evSs cf b e1) h Γ)).symm
/-! loops -/
theorem Wp_for {g : Hh → Bool} {f : PV → Ev → M Fl} (I : List PV → Ev → Hh → Prop) (hg : ∀ r e h, I r e h → g h = true)
    (step : ∀ x r e h, I (x :: r) e h → WpX Xc (f x e) h fun fl h' => match fl with | .nx e' => I r e' h' | .ct e' => I r e' h' | .bk e' => Γ (.nx e') h' | .rt v => Γ (.rt v) h')
    (done : ∀ e h, I [] e h → Γ (.nx e) h) : ∀ (l : List PV) (env : Ev) (h : Hh), I l env h → WpX Xc (forG g f l env) h Γ
  | [], env, h, h0 => by
    rw [Wp_iff]
    unfold Wp0
    rw [forG_nil, if_pos (hg _ _ _ h0)]
    exact done _ _ h0
  | x :: l, env, h, h0 => by
    have e1 : WpX Xc (forG g f (x :: l) env) h Γ ↔ WpX Xc (f x env >>= loopF (forG g f l)) h Γ := by
      rw [Wp_iff, Wp_iff]; unfold Wp0; rw [forG_cons, if_pos (hg _ _ _ h0)]
    rw [e1]
    rw [Wp_bind]
    refine Wp_mono (step x l env h h0) fun fl h' q => ?_
    cases fl with
    | nx e => exact Wp_for I hg step done l e h' q
    | ct e => exact Wp_for I hg step done l e h' q
    | bk e => exact Wp_pure.mpr q
    | rt v => exact Wp_pure.mpr q
theorem Wp_while {c : Ev → M Bool} {b : Ev → M Fl} (I : Nat → Ev → Hh → Prop)
    (step : ∀ n e h, I n e h → WpX Xc (c e) h fun k h1 => if k = true then WpX Xc (b e) h1 fun fl h' => match fl with | .nx e' => ∃ m, m < n ∧ I m e' h' | .ct e' => ∃ m, m < n ∧ I m e' h' | .bk e' => Γ (.nx e') h' | .rt v => Γ (.rt v) h' else Γ (.nx e) h1) :
    ∀ (fuel n : Nat) (env : Ev) (h : Hh), I n env h → n < fuel → WpX Xc (whileF c b fuel env) h Γ
  | 0, n, env, h, _, hl => absurd hl (Nat.not_lt_zero _)
  | fuel + 1, n, env, h, h0, hl => by
    rw [whileF_succ, Wp_bind]
    refine Wp_mono (step n env h h0) fun k h1 q => ?_
    cases k with
    | false => exact Wp_pure.mpr q
    | true =>
      show WpX Xc (b env >>= loopF (whileF c b fuel)) h1 Γ
      rw [Wp_bind]
      rw [if_pos rfl] at q
      refine Wp_mono q fun fl h' q => ?_
      cases fl with
      | nx e =>
        obtain ⟨m, hm, q⟩ := q
        exact Wp_while I step fuel m e h' q (by omega)
      | ct e =>
        obtain ⟨m, hm, q⟩ := q
        exact Wp_while I step fuel m e h' q (by omega)
      | bk e => exact Wp_pure.mpr q
      | rt v => exact Wp_pure.mpr q
/-- a comprehension's run -/
theorem Wp_map {g : Hh → Bool} {f : PV → M (Option PV)} {Ψ : List PV → Hh → Prop} (I : List PV → List PV → Hh → Prop) (hg : ∀ r ys h, I r ys h → g h = true)
    (step : ∀ x r ys h, I (x :: r) ys h → WpX Xc (f x) h fun o h' => I r (ys ++ o.toList) h') (done : ∀ ys h, I [] ys h → Ψ ys h) : ∀ (l ys : List PV) (h : Hh), I l ys h → WpX Xc (mapG g f l) h fun zs h' => Ψ (ys ++ zs) h'
  | [], ys, h, h0 => by
    rw [Wp_iff]
    unfold Wp0 mapG
    rw [if_pos (hg _ _ _ h0)]
    show Ψ (ys ++ []) h
    rw [List.append_nil]
    exact done _ _ h0
  | x :: l, ys, h, h0 => by
    have e1 : ∀ Ξ : List PV → Hh → Prop, WpX Xc (mapG g f (x :: l)) h Ξ ↔ WpX Xc (f x >>= fun o => (mapG g f l >>= fun r => pure (o.toList ++ r))) h Ξ := fun Ξ => by
      rw [Wp_iff, Wp_iff]; unfold Wp0; rw [mapG_cons, if_pos (hg _ _ _ h0)]
    rw [e1]
    rw [Wp_bind]
    refine Wp_mono (step x l ys h h0) fun o h' q => ?_
    rw [Wp_bind]
    refine Wp_mono (Wp_map I hg step done l (ys ++ o.toList) h' q) fun zs h'' q => ?_
    rw [Wp_pure, ← List.append_assoc]
    exact q
/-- .. that leaves the heap and puts F x for each -/
theorem mapG_pure {g : Hh → Bool} {f : PV → M (Option PV)} {F : PV → PV} {h : Hh} (hg : g h = true) : ∀ {l : List PV}, (∀ x ∈ l, f x h = .ok (some (F x)) h) → mapG g f l h = .ok (l.map F) h
  | [], _ => by
    unfold mapG
    rw [if_pos hg]; rfl
  | x :: l, hf => by
    unfold mapG
    rw [if_pos hg, hf x (List.mem_cons_self ..)]
    simp only
    rw [mapG_pure hg fun y hy => hf y (List.mem_cons_of_mem _ hy)]
    rfl
/-! calls -/
theorem callP_imm {f : Nat} {args : List PV} {v v' : PV} {h1 : Hh} (hi : imms args = true) (e : cf f args [] = .ok v h1) (hf : frz h1 frzD v = some v') : callM cf false f args h = .ok v' h := by
  show callP cf f args h = _
  unfold callP
  rw [frzs_imm hi]
  simp only
  rw [e]
  simp only
  rw [hf]
  simp only
  rw [hi, Bool.true_or, if_pos rfl]
theorem callP_imm' {f : Nat} {args : List PV} {v : PV} {h1 : Hh} (hi : imms args = true) (e : cf f args [] = .ok v h1) (hv : imm v = true) : callM cf false f args h = .ok v h := callP_imm hi e (frz_imm hv)
@[simp] theorem callR {f : Nat} {args : List PV} : callM cf true f args = cf f args := rfl
theorem run_at {P : List Df} {k i : Nat} {d : Df} {args : List PV} {Φ : PV → Hh → Prop} (hd : P[i]? = some d) (hn : args.length = d.n) : WpX Xc (Y.run P (k + 1) i args) h Φ ↔ WpX Xc (evSs (Y.run P k) d.body (startE d args)) h fun f h => match f with | .nx _ => Φ .non h | .rt v => Φ v h | _ => False := by
  have : Y.run P (k + 1) i args = runD (Y.run P k) d args := by
    show (match P[i]? with | some d => runD (Y.run P k) d args | none => M.err) = _
    rw [hd]
  rw [this]
  unfold runD
  rw [if_pos hn, Wp_bind]
  have : ∀ (f : Fl) (h : Hh), WpX Xc (finF f) h Φ ↔ match f with | .nx _ => Φ .non h | .rt v => Φ v h | _ => False := fun f h => by cases f <;> first | rfl | exact wpi Iff.rfl
  simp only [this]
/-! exceptions -/
def raF (c n : Nat) (xs : List PV) : M Fl := fun h => if xs.all flt && decide (xs.length = n) then .ex c xs h else .err
theorem Wp_raF {c n : Nat} {xs : List PV} {Γ : Fl → Hh → Prop} : WpX Xc (raF c n xs) h Γ ↔ (xs.all flt = true ∧ xs.length = n) ∧ Xc c xs := by
  rw [Wp_iff]
  unfold Wp0 raF
  by_cases cc : (xs.all flt && decide (xs.length = n)) = true
  · rw [if_pos cc]
    rw [Bool.and_eq_true, decide_eq_true_eq] at cc
    exact ⟨fun p => ⟨cc, p⟩, fun p => p.2⟩
  · rw [if_neg cc]
    rw [Bool.and_eq_true, decide_eq_true_eq] at cc
    exact ⟨fun p => p.elim, fun p => absurd p.1 cc⟩
@[simp] theorem Wp_raiM {c n : Nat} {ms : Ev → M (List PV)} {Γ : Fl → Hh → Prop} : WpX Xc (raiM c n ms env) h Γ ↔ WpX Xc (ms env) h fun xs _ => (xs.all flt = true ∧ xs.length = n) ∧ Xc c xs := by
  have e : raiM c n ms env = (ms env >>= raF c n) := rfl
  rw [e, Wp_bind]
  simp only [Wp_raF]
@[simp] theorem S_rais {c n : Nat} {es : List E} {Γ : Fl → Hh → Prop} : WpX Xc (evS cf (.rais c n es) env) h Γ ↔ WpX Xc (evEs cf es env) h fun xs _ => (xs.all flt = true ∧ xs.length = n) ∧ Xc c xs := Wp_raiM
theorem Wx_of {Φ : α → Hh → Prop} {c : Nat} {fs : List PV} {h' : Hh} (e : m h = .ex c fs h') (p : Xc c fs) : WpX Xc m h Φ := by rw [Wp_iff]; unfold Wp0; rw [e]; exact p
theorem Wp_up {Φ : α → Hh → Prop} (p : Wp m h Φ) : WpX Xc m h Φ := by
  obtain ⟨a, h', e, q⟩ := Wp_ok p
  exact Wp_of e q
theorem Wx_imp {Xd : Nat → List PV → Prop} {Φ Ψ : α → Hh → Prop} (p : WpX Xc m h Φ) (f : ∀ a h', Φ a h' → Ψ a h') (g : ∀ c fs, Xc c fs → Xd c fs) : WpX Xd m h Ψ := by
  rw [Wp_iff] at *
  unfold Wp0 at *
  cases q : m h with
  | ok a h' => rw [q] at p; exact f a h' p
  | ex c fs h' => rw [q] at p; exact g c fs p
  | err => rw [q] at p; exact p
/-- it ends well, or raises -/
theorem Wx_or {Φ : α → Hh → Prop} (p : WpX Xc m h Φ) : (∃ a h', m h = .ok a h' ∧ Φ a h') ∨ ∃ c fs h', m h = .ex c fs h' ∧ Xc c fs := by
  have p := Wp_iff.mp p
  unfold Wp0 at p
  cases q : m h with
  | ok a h' => rw [q] at p; exact .inl ⟨a, h', rfl, p⟩
  | ex c fs h' => rw [q] at p; exact .inr ⟨c, fs, h', rfl, p⟩
  | err => rw [q] at p; exact p.elim
theorem bind_at : (m >>= k) h = (match m h with | .ok a h' => k a h' | .ex c fs h' => .ex c fs h' | .err => .err : R β) := rfl
/-- a try: the clauses take over what the body raises; nothing is known of the heap then but what the suites ask -/
theorem Wx_try {b : S} {hs : List Hd} {Γ : Fl → Hh → Prop} {Xb : Nat → List PV → Prop} (p : WpX Xb (evS cf b env) h fun f h' => match f with | .nx e => Γ (.nx e) h' | r => Γ r h') (g : ∀ c fs h', Xb c fs → WpX Xc (hsM hs c fs) h' Γ) : WpX Xc (evS cf (.tryX b hs) env) h Γ := by
  have e : evS cf (.tryX b hs) env h = (match (evS cf b env >>= fun f => seqF (fun env => pure (.nx env)) f : M Fl) h with | .ex c fs h1 => hsM hs c fs h1 | r => r) := rfl
  rw [Wp_iff]
  unfold Wp0
  rw [e]
  rcases Wx_or p with ⟨f, h', e1, q⟩ | ⟨c, fs, h', e1, q⟩
  · have e2 : (evS cf b env >>= fun f => seqF (fun env => pure (.nx env)) f : M Fl) h = .ok f h' := by
      rw [bind_at, e1]
      cases f <;> rfl
    rw [e2]
    cases f <;> exact q
  · have e2 : (evS cf b env >>= fun f => seqF (fun env => pure (.nx env)) f : M Fl) h = .ex c fs h' := by
      rw [bind_at, e1]
    rw [e2]
    exact Wp_iff.mp (g c fs h' q)
end
end Y

/-! K11: values of operations, for simp -/
namespace Y
open PySem
variable {Xc : Nat → List PV → Prop}
section
variable {h : Hh}
/-! what a value is -/
@[simp] theorem truthy_non : truthy h .non = some false := rfl
@[simp] theorem truthy_bl {b : Bool} : truthy h (.bl b) = some b := rfl
@[simp] theorem truthy_int {i : Int} : truthy h (.int i) = some (i != 0) := rfl
@[simp] theorem truthy_tup {l : List PV} : truthy h (.tup l) = some (!l.isEmpty) := rfl
@[simp] theorem truthy_lst {l : List PV} : truthy h (.lst l) = some (!l.isEmpty) := rfl
@[simp] theorem seqOf_tup {l : List PV} : seqOf h (.tup l) = some l := rfl
@[simp] theorem seqOf_lst {l : List PV} : seqOf h (.lst l) = some l := rfl
@[simp] theorem seqOf_scr {l : List PV} : seqOf h (.scr l) = some l := rfl
@[simp] theorem lstOf_lst {l : List PV} : lstOf h (.lst l) = some l := rfl
@[simp] theorem lstOf_tup {l : List PV} : lstOf h (.tup l) = none := rfl
@[simp] theorem dctOf_dct {ks vs : List PV} : dctOf h (.dct ks vs) = some (ks, vs) := rfl
@[simp] theorem dctOf_tup {l : List PV} : dctOf h (.tup l) = none := rfl
@[simp] theorem dctOf_lst {l : List PV} : dctOf h (.lst l) = none := rfl
@[simp] theorem dctOf_str {x : Str} : dctOf h (.str x) = none := rfl
@[simp] theorem dctOf_int {x : Int} : dctOf h (.int x) = none := rfl
theorem seqOf_ref {i : Nat} {l : List PV} (e : h[i]? = some (.lst l)) : seqOf h (.ref i) = some l := by simp [seqOf, e]
theorem lstOf_ref {i : Nat} {l : List PV} (e : h[i]? = some (.lst l)) : lstOf h (.ref i) = some l := by simp [lstOf, e]
theorem dctOf_ref {i : Nat} {ks vs : List PV} (e : h[i]? = some (.dct ks vs)) : dctOf h (.ref i) = some (ks, vs) := by simp [dctOf, e]
theorem dctOf_refL {i : Nat} {l : List PV} (e : h[i]? = some (.lst l)) : dctOf h (.ref i) = none := by simp [dctOf, e]
@[simp] theorem iterOf_eq {x : PV} : iterOf h x = seqOf h x := rfl
/-! subscripts -/
@[simp] theorem ixV_tup {l : List PV} {i : Int} : ixV h (.tup l) (.int i) = L2.atI l i := rfl
@[simp] theorem ixV_lst {l : List PV} {i : Int} : ixV h (.lst l) (.int i) = L2.atI l i := rfl
@[simp] theorem ixV_scr {l : List PV} {i : Int} : ixV h (.scr l) (.int i) = L2.atI l i := rfl
@[simp] theorem ixV_dct {ks vs : List PV} {y : PV} : ixV h (.dct ks vs) y = if isKey y then dget y ks vs else none := rfl
theorem ixV_ref {i : Nat} {l : List PV} {z : Int} (e : h[i]? = some (.lst l)) : ixV h (.ref i) (.int z) = L2.atI l z := by simp [ixV, dctOf, seqOf, e]
theorem ixV_refD {i : Nat} {ks vs : List PV} {y : PV} (e : h[i]? = some (.dct ks vs)) : ixV h (.ref i) y = if isKey y then dget y ks vs else none := by simp [ixV, dctOf, e]
theorem atI_nat {α} {l : List α} {n : Nat} : L2.atI l (n : Int) = l[n]? := by
  unfold L2.atI L2.ixN
  rw [if_pos (by omega)]
  by_cases hn : n < l.length
  · rw [if_pos (by omega)]; simp
  · rw [if_neg (by omega)]; simp; omega
theorem atI_neg {α} {l : List α} {n : Nat} (h0 : 0 < n) (h1 : n ≤ l.length) : L2.atI l (-(n : Int)) = l[l.length - n]? := by
  unfold L2.atI L2.ixN
  rw [if_neg (by omega), if_pos (by omega)]
  show l[(-(n : Int) + (l.length : Int)).toNat]? = _
  congr 1
  omega
@[simp] theorem atI_0 {α} {l : List α} : L2.atI l 0 = l[0]? := atI_nat (n := 0)
@[simp] theorem atI_1 {α} {l : List α} : L2.atI l 1 = l[1]? := atI_nat (n := 1)
@[simp] theorem atI_2 {α} {l : List α} : L2.atI l 2 = l[2]? := atI_nat (n := 2)
@[simp] theorem atI_3 {α} {l : List α} : L2.atI l 3 = l[3]? := atI_nat (n := 3)
@[simp] theorem atI_4 {α} {l : List α} : L2.atI l 4 = l[4]? := atI_nat (n := 4)
@[simp] theorem atI_5 {α} {l : List α} : L2.atI l 5 = l[5]? := atI_nat (n := 5)
@[simp] theorem atI_6 {α} {l : List α} : L2.atI l 6 = l[6]? := atI_nat (n := 6)
@[simp] theorem atI_n {α} {l : List α} {n : Nat} : L2.atI l (n : Int) = l[n]? := atI_nat
theorem atI_m1 {α} {l : List α} : L2.atI l (-1) = l.getLast? := by
  cases l with
  | nil => rfl
  | cons a l => rw [show (-1 : Int) = -((1 : Nat) : Int) from rfl, atI_neg (by decide) (by simp), List.getLast?_eq_getElem?]
theorem atI_m2 {α} {l : List α} (h1 : 2 ≤ l.length) : L2.atI l (-2) = l[l.length - 2]? := by
  rw [show (-2 : Int) = -((2 : Nat) : Int) from rfl, atI_neg (by decide) h1]
/-! operations -/
@[simp] theorem add_int {i j : Int} : op2 h .add (.int i) (.int j) = some (.int (i + j)) := rfl
@[simp] theorem sub_int {i j : Int} : op2 h .sub (.int i) (.int j) = some (.int (i - j)) := rfl
@[simp] theorem mul_int {i j : Int} : op2 h .mul (.int i) (.int j) = if (i64 i || i64 j) = true then some (.int (i * j)) else none := rfl
@[simp] theorem fdiv_int {i j : Int} : op2 h .fdiv (.int i) (.int j) = if 0 < j ∧ j < 1073741824 then some (.int (i / j)) else none := rfl
@[simp] theorem mod_int {i j : Int} : op2 h .mod (.int i) (.int j) = if 0 < j then some (.int (i % j)) else none := rfl
@[simp] theorem add_str {a b : Str} : op2 h .add (.str a) (.str b) = if a.length + b.length ≤ SZ then some (.str (a ++ b)) else none := rfl
@[simp] theorem add_tup {a b : List PV} : op2 h .add (.tup a) (.tup b) = if a.length + b.length ≤ SZ then some (.tup (a ++ b)) else none := rfl
@[simp] theorem add_lst {a b : List PV} : op2 h .add (.lst a) (.lst b) = if a.length + b.length ≤ SZ then some (.lst (a ++ b)) else none := rfl
theorem add_ref {i : Nat} {a b : List PV} (e : h[i]? = some (.lst a)) : op2 h .add (.ref i) (.lst b) = if a.length + b.length ≤ SZ then some (.lst (a ++ b)) else none := by simp [op2, lstOf, e]
theorem add_refr {i : Nat} {a b : List PV} (e : h[i]? = some (.lst b)) : op2 h .add (.lst a) (.ref i) = if a.length + b.length ≤ SZ then some (.lst (a ++ b)) else none := by simp [op2, lstOf, e]
/-! comparisons -/
@[simp] theorem eq_int {i j : Int} : cmpV h .eq (.int i) (.int j) = some (i == j) := rfl
@[simp] theorem ne_int {i j : Int} : cmpV h .ne (.int i) (.int j) = some (!(i == j)) := rfl
@[simp] theorem eq_str {i j : Str} : cmpV h .eq (.str i) (.str j) = some (i == j) := rfl
@[simp] theorem ne_str {i j : Str} : cmpV h .ne (.str i) (.str j) = some (!(i == j)) := rfl
@[simp] theorem eq_bl {i j : Bool} : cmpV h .eq (.bl i) (.bl j) = some (i == j) := rfl
@[simp] theorem ne_bl {i j : Bool} : cmpV h .ne (.bl i) (.bl j) = some (!(i == j)) := rfl
@[simp] theorem lt_int {i j : Int} : cmpV h .lt (.int i) (.int j) = some (decide (i < j)) := rfl
@[simp] theorem le_int {i j : Int} : cmpV h .le (.int i) (.int j) = some (decide (i ≤ j)) := rfl
@[simp] theorem gt_int {i j : Int} : cmpV h .gt (.int i) (.int j) = some (decide (j < i)) := rfl
@[simp] theorem ge_int {i j : Int} : cmpV h .ge (.int i) (.int j) = some (decide (j ≤ i)) := rfl
@[simp] theorem is_non {x : PV} : cmpV h .isn x .non = some (decide (x = .non)) := rfl
@[simp] theorem isnot_non {x : PV} : cmpV h .notn x .non = some (!decide (x = .non)) := rfl
/-! built-ins -/
@[simp] theorem len_tup {l : List PV} : bi1 h .len [.tup l] = some (.int l.length) := rfl
@[simp] theorem len_lst {l : List PV} : bi1 h .len [.lst l] = some (.int l.length) := rfl
@[simp] theorem len_scr {l : List PV} : bi1 h .len [.scr l] = some (.int l.length) := rfl
@[simp] theorem len_dct {ks vs : List PV} : bi1 h .len [.dct ks vs] = some (.int ks.length) := rfl
theorem len_ref {i : Nat} {l : List PV} (e : h[i]? = some (.lst l)) : bi1 h .len [.ref i] = some (.int l.length) := by simp [bi1, lenV, dctOf, seqOf, e]
theorem len_refD {i : Nat} {ks vs : List PV} (e : h[i]? = some (.dct ks vs)) : bi1 h .len [.ref i] = some (.int ks.length) := by simp [bi1, lenV, dctOf, e]
@[simp] theorem int_int {i : Int} : bi1 h .int [.int i] = some (.int i) := rfl
@[simp] theorem int_bl {i : Bool} : bi1 h .int [.bl i] = some (.int (if i then 1 else 0)) := rfl
@[simp] theorem abs_int {i : Int} : bi1 h .abs [.int i] = some (.int (if i < 0 then -i else i)) := rfl
@[simp] theorem tuple_lst {l : List PV} : bi1 h .tuple [.lst l] = some (.tup l) := rfl
@[simp] theorem tuple_tup {l : List PV} : bi1 h .tuple [.tup l] = some (.tup l) := rfl
theorem tuple_ref {i : Nat} {l : List PV} (e : h[i]? = some (.lst l)) : bi1 h .tuple [.ref i] = some (.tup l) := by simp [bi1, seqOf, e]
@[simp] theorem isi_non {t : Ty} : isiV h .non t = some false := rfl
@[simp] theorem isi_bl {b : Bool} {t : Ty} : isiV h (.bl b) t = some (t == .bool || t == .int) := rfl
@[simp] theorem isi_int {b : Int} {t : Ty} : isiV h (.int b) t = some (t == .int) := rfl
@[simp] theorem isi_str {b : Str} {t : Ty} : isiV h (.str b) t = some (t == .str) := rfl
@[simp] theorem isi_tup {b : List PV} {t : Ty} : isiV h (.tup b) t = some (t == .tuple) := rfl
@[simp] theorem isi_lst {b : List PV} {t : Ty} : isiV h (.lst b) t = some (t == .list) := rfl
/-! targets -/
@[simp] theorem bind_nm {i : Nat} {v : PV} {e : Ev} : bindT (.nm i) v e = some (e.set i (some v)) := rfl
@[simp] theorem bind_tp {is : List Nat} {l : List PV} {e : Ev} : bindT (.tp is) (.tup l) e = if l.length = is.length then some (setsE e is l) else none := rfl
@[simp] theorem sets_nil {e : Ev} {vs : List PV} : setsE e [] vs = e := by cases vs <;> rfl
@[simp] theorem sets_cons {e : Ev} {i : Nat} {is : List Nat} {v : PV} {vs : List PV} : setsE e (i :: is) (v :: vs) = setsE (e.set i (some v)) is vs := rfl
@[simp] theorem wipe_nil {e : Ev} : Y.wipe e [] = e := rfl
@[simp] theorem wipe_cons {e : Ev} {i : Nat} {is : List Nat} : Y.wipe e (i :: is) = (Y.wipe e is).set i none := rfl
/-! whole values -/
@[simp] theorem imm_non : imm .non = true := rfl
@[simp] theorem imm_bl {b : Bool} : imm (.bl b) = true := rfl
@[simp] theorem imm_int {b : Int} : imm (.int b) = true := rfl
@[simp] theorem imm_str {b : Str} : imm (.str b) = true := rfl
@[simp] theorem imm_tup {b : List PV} : imm (.tup b) = imms b := rfl
@[simp] theorem imm_lst {b : List PV} : imm (.lst b) = imms b := rfl
@[simp] theorem imm_dct {ks b : List PV} : imm (.dct ks b) = (imms ks && imms b) := rfl
@[simp] theorem imm_scr {b : List PV} : imm (.scr b) = imms b := rfl
@[simp] theorem imms_nil : imms [] = true := rfl
@[simp] theorem imms_cons {x : PV} {xs : List PV} : imms (x :: xs) = (imm x && imms xs) := rfl
theorem imms_iff {l : List PV} : imms l = true ↔ ∀ x ∈ l, imm x = true := by
  induction l with
  | nil => simp
  | cons x l ih => simp [ih]
@[simp] theorem imms_append {a b : List PV} : imms (a ++ b) = (imms a && imms b) := by
  induction a with
  | nil => simp
  | cons x a ih => simp [ih, Bool.and_assoc]
theorem imms_map {α} {f : α → PV} {l : List α} (hf : ∀ x ∈ l, imm (f x) = true) : imms (l.map f) = true := imms_iff.mpr fun y hy => by
  obtain ⟨x, hx, rfl⟩ := List.mem_map.mp hy
  exact hf x hx
@[simp] theorem dat_non : dat .non = true := rfl
@[simp] theorem dat_bl {b : Bool} : dat (.bl b) = true := rfl
@[simp] theorem dat_int {b : Int} : dat (.int b) = true := rfl
@[simp] theorem dat_str {b : Str} : dat (.str b) = true := rfl
@[simp] theorem dat_tup {b : List PV} : dat (.tup b) = dats b := rfl
@[simp] theorem dats_nil : dats [] = true := rfl
@[simp] theorem dats_cons {x : PV} {xs : List PV} : dats (x :: xs) = (dat x && dats xs) := rfl
@[simp] theorem grd_tup {l m : List PV} : grd (.tup l) m h = true := rfl
@[simp] theorem grd_lst {l m : List PV} : grd (.lst l) m h = true := rfl
@[simp] theorem grd_scr {l m : List PV} : grd (.scr l) m h = true := rfl
theorem grd_ref {i : Nat} {l : List PV} : grd (.ref i) l h = decide (h[i]? = some (.lst l)) := rfl
@[simp] theorem mtT_join {x : Str} : mtT h .join (.str x) = some () := rfl
@[simp] theorem mtV_append {x : PV} {xs : List PV} : mtV .append x xs = mAppend x xs := rfl
@[simp] theorem mtV_extend {x : PV} {xs : List PV} : mtV .extend x xs = mExtend x xs := rfl
@[simp] theorem mtV_pop0 {x : PV} {xs : List PV} : mtV .pop0 x xs = mPop0 x xs := rfl
@[simp] theorem mtV_pop1 {x : PV} {xs : List PV} : mtV .pop1 x xs = mPop1 x xs := rfl
@[simp] theorem mtV_insert {x : PV} {xs : List PV} : mtV .insert x xs = mInsert x xs := rfl
@[simp] theorem mtV_join {x : PV} {xs : List PV} : mtV .join x xs = mJoin x xs := rfl
@[simp] theorem mtV_index {x : PV} {xs : List PV} : mtV .index x xs = mIndex x xs := rfl
@[simp] theorem mtT_indexT {l : List PV} : mtT h .index (.tup l) = some () := rfl
@[simp] theorem mtT_indexL {l : List PV} : mtT h .index (.lst l) = some () := rfl
@[simp] theorem mtV_get1 {x : PV} {xs : List PV} : mtV .get1 x xs = mGet1 x xs := rfl
theorem mtT_ref {m : Mt} {i : Nat} {l : List PV} (e : h[i]? = some (.lst l)) (hm : m ≠ .join) (hm2 : m ≠ .get1) (hm3 : m ≠ .index) : mtT h m (.ref i) = some () := by
  cases m <;> first | (simp [mtT, lstOf, e]; done) | exact absurd rfl hm | exact absurd rfl hm2 | exact absurd rfl hm3
theorem Wp_append {i : Nat} {l : List PV} {y : PV} {Φ : PV → Hh → Prop} (e : h[i]? = some (.lst l)) : WpX Xc (mAppend (.ref i) [y]) h Φ ↔ l.length < SZ ∧ Φ .non (h.set i (.lst (l ++ [y]))) := by
  simp only [Wp_iff]
  unfold Wp0 mAppend
  simp only [e]
  by_cases hl : l.length < SZ
  · simp [hl]
  · simp [hl]
theorem ltOf_lstOf {y : PV} {r : List PV} (e : lstOf h y = some r) : ltOf h y = some r := by
  unfold ltOf
  split
  · simp [lstOf] at e
  · exact e
@[simp] theorem ltOf_tup {l : List PV} : ltOf h (.tup l) = some l := rfl
@[simp] theorem ltOf_lst {l : List PV} : ltOf h (.lst l) = some l := rfl
@[simp] theorem ltOf_ref {i : Nat} : ltOf h (.ref i) = lstOf h (.ref i) := rfl
theorem Wp_extend {i : Nat} {l r : List PV} {y : PV} {Φ : PV → Hh → Prop} (e : h[i]? = some (.lst l)) (er : ltOf h y = some r) : WpX Xc (mExtend (.ref i) [y]) h Φ ↔ l.length + r.length ≤ SZ ∧ Φ .non (h.set i (.lst (l ++ r))) := by
  simp only [Wp_iff]
  unfold Wp0 mExtend
  simp only [e, er]
  by_cases hl : l.length + r.length ≤ SZ
  · simp [hl]
  · simp [hl]
theorem Wp_pop0 {i : Nat} {l : List PV} {y : PV} {Φ : PV → Hh → Prop} (e : h[i]? = some (.lst (l ++ [y]))) : WpX Xc (mPop0 (.ref i) []) h Φ ↔ Φ y (h.set i (.lst l)) := by
  simp only [Wp_iff]
  unfold Wp0 mPop0
  simp [e]
theorem Wp_pop1 {i : Nat} {l : List PV} {z : Int} {Φ : PV → Hh → Prop} (e : h[i]? = some (.lst l)) : WpX Xc (mPop1 (.ref i) [.int z]) h Φ ↔ OW (L2.ixN l.length z) fun j => OW l[j]? fun y => Φ y (h.set i (.lst (l.eraseIdx j))) := by
  simp only [Wp_iff]
  unfold Wp0 mPop1
  simp only [e]
  cases L2.ixN l.length z with
  | none => exact toOW Iff.rfl
  | some j =>
    simp only [OW_some]
    cases l[j]? <;> exact toOW Iff.rfl
theorem Wp_insert {i : Nat} {l : List PV} {z : Int} {y : PV} {Φ : PV → Hh → Prop} (e : h[i]? = some (.lst l)) : WpX Xc (mInsert (.ref i) [.int z, y]) h Φ ↔ (0 ≤ z ∧ z < 2 ^ 63 ∧ l.length < SZ) ∧ Φ .non (h.set i (.lst (l.take z.toNat ++ [y] ++ l.drop z.toNat))) := by
  simp only [Wp_iff]
  unfold Wp0 mInsert
  simp only [e]
  by_cases hl : 0 ≤ z ∧ z < 2 ^ 63 ∧ l.length < SZ
  · rw [if_pos hl]; exact ⟨fun p => ⟨hl, p⟩, fun p => p.2⟩
  · rw [if_neg hl]; exact ⟨fun p => p.elim, fun p => absurd p.1 hl⟩
theorem Wp_join {a : Str} {y : PV} {ys : List Str} {Φ : PV → Hh → Prop} (e : (seqOf h y).bind strsOf = some ys) : WpX Xc (mJoin (.str a) [y]) h Φ ↔ (ys.map (·.length)).sum + ys.length * a.length ≤ SZ ∧ Φ (.str (Txt.join a ys)) h := by
  simp only [Wp_iff]
  unfold Wp0 mJoin
  simp only [e]
  by_cases hl : (ys.map (·.length)).sum + ys.length * a.length ≤ SZ
  · simp [hl]
  · simp [hl]
theorem strs_map {l : List Str} : strsOf (l.map PV.str) = some l := by
  induction l with
  | nil => rfl
  | cons x l ih => show (strsOf (l.map PV.str)).map (x :: ·) = _; rw [ih]; rfl
theorem Wp_setL {a : Nat} {l : List PV} {z : Int} {v : PV} {Φ : Unit → Hh → Prop} (e : h[a]? = some (.lst l)) : WpX Xc (setV (.ref a) (.int z) v) h Φ ↔ OW (L2.ixN l.length z) fun j => Φ () (h.set a (.lst (l.set j v))) := by
  simp only [Wp_iff]
  unfold Wp0 setV
  simp only [e]
  cases L2.ixN l.length z <;> exact toOW Iff.rfl
theorem Wp_setD {a : Nat} {ks vs : List PV} {i v : PV} {Φ : Unit → Hh → Prop} (e : h[a]? = some (.dct ks vs)) : WpX Xc (setV (.ref a) i v) h Φ ↔ (isKey i = true ∧ ks.length < SZ) ∧ Φ () (h.set a (.dct (dput i v ks vs).1 (dput i v ks vs).2)) := by
  simp only [Wp_iff]
  unfold Wp0 setV
  simp only [e]
  by_cases hl : (isKey i && decide (ks.length < SZ)) = true
  · rw [if_pos hl]
    rw [Bool.and_eq_true, decide_eq_true_eq] at hl
    exact ⟨fun p => ⟨hl, p⟩, fun p => p.2⟩
  · rw [if_neg hl]
    rw [Bool.and_eq_true, decide_eq_true_eq] at hl
    exact ⟨fun p => p.elim, fun p => absurd p.1 hl⟩
theorem Wp_callP {cf : CF} {f : Nat} {args : List PV} {Φ : PV → Hh → Prop} (hi : imms args = true) (p : Wp (cf f args) [] fun v h1 => ∃ v', frz h1 frzD v = some v' ∧ Φ v' h) : WpX Xc (callM cf false f args) h Φ := by
  obtain ⟨v, h1, e, v', ev, q⟩ := Wp_ok p
  exact Wp_of (callP_imm hi e ev) q
theorem isKey_int {i : Int} : isKey (.int i) = true := rfl
theorem isKey_str {i : Str} : isKey (.str i) = true := rfl
theorem mapG_map {ι : Type} {g : Hh → Bool} {f : PV → M (Option PV)} {A B : ι → PV} (hg : g h = true) : ∀ {l : List ι}, (∀ p ∈ l, f (A p) h = .ok (some (B p)) h) → mapG g f (l.map A) h = .ok (l.map B) h
  | [], _ => by
    unfold mapG
    simp only [List.map_nil]
    rw [if_pos hg]
  | x :: l, hf => by
    rw [List.map_cons]
    unfold mapG
    rw [if_pos hg, hf x (List.mem_cons_self ..)]
    simp only
    rw [mapG_map hg fun y hy => hf y (List.mem_cons_of_mem _ hy)]
    rfl
theorem nin_ref {i : Nat} {x : PV} {ks vs : List PV} (e : h[i]? = some (.dct ks vs)) (hk : isKey x = true) : cmpV h .nin x (.ref i) = some (!(dget x ks vs).isSome) := by
  simp [cmpV, dctOf, e, hk]
theorem inn_ref {i : Nat} {x : PV} {ks vs : List PV} (e : h[i]? = some (.dct ks vs)) (hk : isKey x = true) : cmpV h .inn x (.ref i) = some ((dget x ks vs).isSome) := by
  simp [cmpV, dctOf, e, hk]
theorem nodup_le {α} [DecidableEq α] : ∀ (l S : List α), l.Nodup → (∀ x ∈ l, x ∈ S) → l.length ≤ S.length
  | [], S, _, _ => Nat.zero_le _
  | x :: l, S, hn, hs => by
    have hx := hs x (List.mem_cons_self ..)
    rw [List.nodup_cons] at hn
    have h1 := nodup_le l (S.erase x) hn.2 fun y hy => by
      have hne : y ≠ x := by rintro rfl; exact hn.1 hy
      exact (List.mem_erase_of_ne hne).mpr (hs y (List.mem_cons_of_mem _ hy))
    rw [List.length_erase_of_mem hx] at h1
    have : 0 < S.length := List.length_pos_of_mem hx
    simp only [List.length_cons]
    omega
/-- keys that are ints -/
theorem dget_int {ι : Type} {f : ι → PV} : ∀ {ks : List Int} {vs : List ι} {x : Int}, ks.length = vs.length → x ∈ ks → ∃ p ∈ vs, dget (.int x) (ks.map PV.int) (vs.map f) = some (f p)
  | k :: ks, v :: vs, x, hl, hm => by
    simp only [List.map_cons, dget]
    by_cases hk : k = x
    · exact ⟨v, List.mem_cons_self .., by rw [if_pos (by rw [hk])]⟩
    · obtain ⟨p, hp, e⟩ := dget_int (f := f) (ks := ks) (vs := vs) (x := x) (by simpa using hl) (by
        rcases List.mem_cons.mp hm with q | q
        · exact absurd q.symm hk
        · exact q)
      exact ⟨p, List.mem_cons_of_mem _ hp, by rw [if_neg (by intro q; injection q with q; exact hk q)]; exact e⟩
theorem dget_int_none {ι : Type} {f : ι → PV} : ∀ {ks : List Int} {vs : List ι} {x : Int}, x ∉ ks → dget (.int x) (ks.map PV.int) (vs.map f) = none
  | [], vs, x, _ => by cases vs <;> rfl
  | k :: ks, [], x, _ => rfl
  | k :: ks, v :: vs, x, hm => by
    simp only [List.map_cons, dget]
    rw [if_neg (by intro q; injection q with q; exact hm (by simp [q]))]
    exact dget_int_none (fun q => hm (List.mem_cons_of_mem _ q))
theorem dput_int_new {ι : Type} {f : ι → PV} {ks : List Int} {vs : List ι} {x : Int} {v : PV} (hm : x ∉ ks) : dput (.int x) v (ks.map PV.int) (vs.map f) = (ks.map PV.int ++ [.int x], vs.map f ++ [v]) := by
  unfold dput
  rw [if_neg]
  simp only [List.any_map, List.any_eq_true, Function.comp, decide_eq_true_eq, PV.int.injEq]
  rintro ⟨y, hy, rfl⟩
  exact hm hy
/-! what a reference stands for, by the object -/
def obIx : Ob → PV → Option PV
  | .lst l, .int z => L2.atI l z
  | .lst _, _ => none
  | .dct ks vs, y => if isKey y then dget y ks vs else none
@[simp] theorem obIx_lst {l : List PV} {z : Int} : obIx (.lst l) (.int z) = L2.atI l z := rfl
@[simp] theorem obIx_dct {ks vs : List PV} {y : PV} : obIx (.dct ks vs) y = if isKey y then dget y ks vs else none := by cases y <;> rfl
@[simp] theorem ixV_U {i : Nat} {y : PV} : ixV h (.ref i) y = (h[i]?).bind fun o => obIx o y := by
  unfold ixV
  cases e : h[i]? with
  | none => simp [dctOf, seqOf, e]
  | some o =>
    cases o with
    | lst l => cases y <;> simp [dctOf, seqOf, e, obIx]
    | dct ks vs => simp [dctOf, seqOf, e, obIx]
def obDct : Ob → Option (List PV × List PV)
  | .dct ks vs => some (ks, vs)
  | _ => none
@[simp] theorem obDct_dct {ks vs : List PV} : obDct (.dct ks vs) = some (ks, vs) := rfl
def obLst : Ob → Option (List PV)
  | .lst l => some l
  | _ => none
@[simp] theorem obLst_lst {l : List PV} : obLst (.lst l) = some l := rfl
@[simp] theorem lstOf_U {i : Nat} : lstOf h (.ref i) = (h[i]?).bind obLst := by
  unfold lstOf
  cases e : h[i]? with
  | none => simp [e]
  | some o => cases o <;> simp [e, obLst, obDct]
@[simp] theorem seqOf_U {i : Nat} : seqOf h (.ref i) = (h[i]?).bind obLst := by
  unfold seqOf
  cases e : h[i]? with
  | none => simp [e]
  | some o => cases o <;> simp [e, obLst, obDct]
@[simp] theorem dctOf_U {i : Nat} : dctOf h (.ref i) = (h[i]?).bind obDct := by
  unfold dctOf
  cases e : h[i]? with
  | none => simp [e]
  | some o => cases o <;> simp [e, obLst, obDct]
def obLen : Ob → Nat
  | .lst l => l.length
  | .dct ks _ => ks.length
@[simp] theorem obLen_lst {l : List PV} : obLen (.lst l) = l.length := rfl
@[simp] theorem obLen_dct {ks vs : List PV} : obLen (.dct ks vs) = ks.length := rfl
@[simp] theorem len_U {i : Nat} : bi1 h .len [.ref i] = (h[i]?).map fun o => .int (obLen o) := by
  show (lenV h (.ref i)).map PV.int = _
  unfold lenV
  cases e : h[i]? with
  | none => simp [e]
  | some o => cases o <;> simp [e, obDct, obLst, obLen]
@[simp] theorem tuple_U {i : Nat} : bi1 h .tuple [.ref i] = (h[i]?).bind fun o => (obLst o).map .tup := by
  show (seqOf h (.ref i)).map PV.tup = _
  rw [seqOf_U]
  cases h[i]? <;> rfl
@[simp] theorem truthy_U {i : Nat} : truthy h (.ref i) = (h[i]?).map fun o => decide (0 < obLen o) := by
  unfold truthy
  cases e : h[i]? with
  | none => simp [e]
  | some o =>
    cases o with
    | lst l => cases l <;> simp [e, obLen]
    | dct ks vs => cases ks <;> simp [e, obLen]
@[simp] theorem mtT_append {i : Nat} : mtT h .append (.ref i) = (h[i]?).bind fun o => (obLst o).map fun _ => () := by show (lstOf h (.ref i)).map _ = _; rw [lstOf_U]; cases h[i]? <;> rfl
@[simp] theorem mtT_extend {i : Nat} : mtT h .extend (.ref i) = (h[i]?).bind fun o => (obLst o).map fun _ => () := by show (lstOf h (.ref i)).map _ = _; rw [lstOf_U]; cases h[i]? <;> rfl
@[simp] theorem mtT_pop0 {i : Nat} : mtT h .pop0 (.ref i) = (h[i]?).bind fun o => (obLst o).map fun _ => () := by show (lstOf h (.ref i)).map _ = _; rw [lstOf_U]; cases h[i]? <;> rfl
@[simp] theorem mtT_pop1 {i : Nat} : mtT h .pop1 (.ref i) = (h[i]?).bind fun o => (obLst o).map fun _ => () := by show (lstOf h (.ref i)).map _ = _; rw [lstOf_U]; cases h[i]? <;> rfl
@[simp] theorem mtT_insert {i : Nat} : mtT h .insert (.ref i) = (h[i]?).bind fun o => (obLst o).map fun _ => () := by show (lstOf h (.ref i)).map _ = _; rw [lstOf_U]; cases h[i]? <;> rfl
def obDo (o : Ob) (Φ : List PV → Prop) : Prop := match o with | .lst l => Φ l | _ => False
@[simp] theorem obDo_lst {l : List PV} {Φ : List PV → Prop} : obDo (.lst l) Φ ↔ Φ l := Iff.rfl
@[simp] theorem append_U {i : Nat} {y : PV} {Φ : PV → Hh → Prop} : WpX Xc (mAppend (.ref i) [y]) h Φ ↔ OW h[i]? fun o => obDo o fun l => l.length < SZ ∧ Φ .non (h.set i (.lst (l ++ [y]))) := by
  cases e : h[i]? with
  | none => simp only [Wp_iff]; unfold Wp0 mAppend; simp [e]
  | some o =>
    cases o with
    | lst l => rw [Wp_append e, OW_some, obDo_lst]
    | dct ks vs => simp only [Wp_iff]; unfold Wp0 mAppend; simp [e, obDo]
@[simp] theorem extend_U {i : Nat} {y : PV} {Φ : PV → Hh → Prop} : WpX Xc (mExtend (.ref i) [y]) h Φ ↔ OW h[i]? fun o => obDo o fun l => OW (ltOf h y) fun r => l.length + r.length ≤ SZ ∧ Φ .non (h.set i (.lst (l ++ r))) := by
  cases e : h[i]? with
  | none => simp only [Wp_iff]; unfold Wp0 mExtend; simp [e]
  | some o =>
    cases o with
    | lst l =>
      cases er : ltOf h y with
      | none => simp only [Wp_iff]; unfold Wp0 mExtend; simp [e, er]
      | some r => rw [Wp_extend e er, OW_some, obDo_lst, OW_some]
    | dct ks vs => simp only [Wp_iff]; unfold Wp0 mExtend; simp [e, obDo]
@[simp] theorem pop0_U {i : Nat} {Φ : PV → Hh → Prop} : WpX Xc (mPop0 (.ref i) []) h Φ ↔ OW h[i]? fun o => obDo o fun l => OW l.getLast? fun y => Φ y (h.set i (.lst l.dropLast)) := by
  cases e : h[i]? with
  | none => simp only [Wp_iff]; unfold Wp0 mPop0; simp [e]
  | some o =>
    cases o with
    | lst l =>
      rw [OW_some, obDo_lst]
      simp only [Wp_iff]
      unfold Wp0 mPop0
      simp only [e]
      cases hl : l.getLast? <;> simp only [hl] <;> exact toOW Iff.rfl
    | dct ks vs => simp only [Wp_iff]; unfold Wp0 mPop0; simp [e, obDo]
@[simp] theorem pop1_U {i : Nat} {z : Int} {Φ : PV → Hh → Prop} : WpX Xc (mPop1 (.ref i) [.int z]) h Φ ↔ OW h[i]? fun o => obDo o fun l => OW (L2.ixN l.length z) fun j => OW l[j]? fun y => Φ y (h.set i (.lst (l.eraseIdx j))) := by
  cases e : h[i]? with
  | none => simp only [Wp_iff]; unfold Wp0 mPop1; simp [e]
  | some o =>
    cases o with
    | lst l => rw [Wp_pop1 e, OW_some, obDo_lst]
    | dct ks vs => simp only [Wp_iff]; unfold Wp0 mPop1; simp [e, obDo]
@[simp] theorem insert_U {i : Nat} {z : Int} {y : PV} {Φ : PV → Hh → Prop} : WpX Xc (mInsert (.ref i) [.int z, y]) h Φ ↔ OW h[i]? fun o => obDo o fun l => (0 ≤ z ∧ z < 2 ^ 63 ∧ l.length < SZ) ∧ Φ .non (h.set i (.lst (l.take z.toNat ++ [y] ++ l.drop z.toNat))) := by
  cases e : h[i]? with
  | none => simp only [Wp_iff]; unfold Wp0 mInsert; simp [e]
  | some o =>
    cases o with
    | lst l => rw [Wp_insert e, OW_some, obDo_lst]
    | dct ks vs => simp only [Wp_iff]; unfold Wp0 mInsert; simp [e, obDo]
def obSet (o : Ob) (i v : PV) (Φ : Ob → Prop) : Prop := match o, i with
  | .lst l, .int z => OW (L2.ixN l.length z) fun j => Φ (.lst (l.set j v))
  | .lst _, _ => False
  | .dct ks vs, i => (isKey i = true ∧ ks.length < SZ) ∧ Φ (.dct (dput i v ks vs).1 (dput i v ks vs).2)
@[simp] theorem obSet_lst {l : List PV} {z : Int} {v : PV} {Φ : Ob → Prop} : obSet (.lst l) (.int z) v Φ ↔ OW (L2.ixN l.length z) fun j => Φ (.lst (l.set j v)) := Iff.rfl
@[simp] theorem obSet_dct {ks vs : List PV} {i v : PV} {Φ : Ob → Prop} : obSet (.dct ks vs) i v Φ ↔ (isKey i = true ∧ ks.length < SZ) ∧ Φ (.dct (dput i v ks vs).1 (dput i v ks vs).2) := by cases i <;> exact Iff.rfl
@[simp] theorem set_U {a : Nat} {i v : PV} {Φ : Unit → Hh → Prop} : WpX Xc (setV (.ref a) i v) h Φ ↔ OW h[a]? fun o => obSet o i v fun o' => Φ () (h.set a o') := by
  cases e : h[a]? with
  | none => simp only [Wp_iff]; unfold Wp0 setV; simp [e]
  | some o =>
    cases o with
    | lst l =>
      cases i <;> first | (rw [Wp_setL e, OW_some, obSet_lst]) | (simp only [Wp_iff]; unfold Wp0 setV; simp [e, obSet])
    | dct ks vs => rw [Wp_setD e, OW_some, obSet_dct]
@[simp] theorem sgnIn_ref {x : PV} {i : Nat} : sgnIn x (.ref i) = none := by cases x <;> rfl
@[simp] theorem nin_U {i : Nat} {x : PV} : cmpV h .nin x (.ref i) = (h[i]?).bind fun o => match o with
  | .dct ks vs => if isKey x then some (!(dget x ks vs).isSome) else none
  | .lst l => if (flat x && l.all flat) || (shp 20 x && l.all (shp 20)) then some (!l.any fun z => eqv z x) else none := by
  unfold cmpV
  cases e : h[i]? with
  | none => simp [e]
  | some o => cases o <;> simp [e, obDct]
@[simp] theorem isKey_int' {i : Int} : isKey (.int i) = true := rfl
@[simp] theorem isKey_str' {i : Str} : isKey (.str i) = true := rfl
@[simp] theorem ixN_0 {n : Nat} : L2.ixN (n + 1) 0 = some 0 := by
  unfold L2.ixN
  rw [if_pos (by omega), if_pos (by omega)]
  rfl
@[simp] theorem add_Ul {i : Nat} {b : List PV} : op2 h .add (.ref i) (.lst b) = (h[i]?).bind fun o => (obLst o).bind fun a => if a.length + b.length ≤ SZ then some (.lst (a ++ b)) else none := by
  unfold op2
  cases e : h[i]? with
  | none => simp [e]
  | some o => cases o <;> simp [e, obLst]
@[simp] theorem add_Ur {i : Nat} {a : List PV} : op2 h .add (.lst a) (.ref i) = (h[i]?).bind fun o => (obLst o).bind fun b => if a.length + b.length ≤ SZ then some (.lst (a ++ b)) else none := by
  unfold op2
  cases e : h[i]? with
  | none => simp [e]
  | some o => cases o <;> simp [e, obLst]
theorem snoc_ex {α} {l : List α} (h : 0 < l.length) : ∃ l' a, l = l' ++ [a] := by
  have hn : l ≠ [] := by rintro rfl; cases h
  exact ⟨l.dropLast, l.getLast hn, (List.dropLast_concat_getLast hn).symm⟩
theorem shl_ex {j : Int} (h0 : 0 ≤ j) (h1 : j ≤ 1000000) : ∃ M : Int, 0 < M ∧ ∀ h : Hh, op2 h .shl (.int 1) (.int j) = some (.int M) := by
  refine ⟨1 * 2 ^ j.toNat, ?_, fun h => ?_⟩
  · rw [Int.one_mul]
    exact Int.pow_pos (by decide)
  · exact if_pos ⟨h0, h1, by decide⟩
theorem pow_ex {i j : Int} (hi : 0 < i) (hi2 : i.natAbs < 2 ^ 64) (h0 : 0 ≤ j) (h1 : j ≤ 1000000) : ∃ M : Int, 0 < M ∧ ∀ h : Hh, op2 h .pow (.int i) (.int j) = some (.int M) := by
  refine ⟨i ^ j.toNat, Int.pow_pos hi, fun h => ?_⟩
  exact if_pos ⟨h0, h1, hi2⟩
theorem cut_map {α β} (f : α → β) (l : List α) (lo hi : Option Int) : cut (l.map f) lo hi = (cut l lo hi).map f := by
  unfold cut
  rw [List.length_map, List.map_take, List.map_drop]
theorem cut_len {α} (l : List α) (lo hi : Option Int) : (cut l lo hi).length ≤ l.length := by
  unfold cut
  simp
  omega
theorem cut_take {α} {l : List α} {n : Nat} : cut l none (some (n : Int)) = l.take n := by
  unfold cut
  have e0 : HT.sIx l.length 0 none = 0 := rfl
  rw [e0]
  have e1 : HT.sIx l.length l.length (some (n : Int)) = min n l.length := by
    unfold HT.sIx
    first | (simp; omega) | (split <;> omega) | (simp; split <;> omega)
  rw [e1]
  simp
theorem cut_drop {α} {l : List α} {n : Nat} : cut l (some (n : Int)) none = l.drop n := by
  unfold cut
  have e0 : HT.sIx l.length l.length none = l.length := rfl
  rw [e0]
  have e1 : HT.sIx l.length 0 (some (n : Int)) = min n l.length := by
    unfold HT.sIx
    first | (simp; omega) | (split <;> omega) | (simp; split <;> omega)
  rw [e1, List.take_of_length_le (by simp)]
  by_cases h : n ≤ l.length
  · rw [Nat.min_eq_left h]
  · rw [Nat.min_eq_right (by omega), List.drop_of_length_le (Nat.le_refl _), List.drop_of_length_le (by omega)]
@[simp] theorem getA {α} {l : List α} {o : α} {t : List α} : (l ++ o :: t)[l.length]? = some o := by
  rw [List.getElem?_append_right (Nat.le_refl _), Nat.sub_self]; rfl
@[simp] theorem getB {α} {l : List α} {o p : α} {t : List α} : (l ++ o :: p :: t)[l.length + 1]? = some p := by
  rw [List.getElem?_append_right (by omega), Nat.add_sub_cancel_left]; rfl
@[simp] theorem getC {α} {l : List α} {o p q : α} {t : List α} : (l ++ o :: p :: q :: t)[l.length + 2]? = some q := by
  rw [List.getElem?_append_right (by omega), Nat.add_sub_cancel_left]; rfl
@[simp] theorem setA {α} {l : List α} {o x : α} {t : List α} : (l ++ o :: t).set l.length x = l ++ x :: t := by
  induction l with
  | nil => rfl
  | cons a l ih => simpa using ih
@[simp] theorem setB {α} {l : List α} {o p x : α} {t : List α} : (l ++ o :: p :: t).set (l.length + 1) x = l ++ o :: x :: t := by
  induction l with
  | nil => rfl
  | cons a l ih => simpa using ih
@[simp] theorem setC {α} {l : List α} {o p q x : α} {t : List α} : (l ++ o :: p :: q :: t).set (l.length + 2) x = l ++ o :: p :: x :: t := by
  induction l with
  | nil => rfl
  | cons a l ih => simpa using ih
@[simp] theorem Wp_mapG_nil {g : Hh → Bool} {f : PV → M (Option PV)} {Ψ : List PV → Hh → Prop} : WpX Xc (mapG g f []) h Ψ ↔ g h = true ∧ Ψ [] h := by
  simp only [Wp_iff]
  unfold Wp0 mapG
  by_cases hg : g h = true <;> simp [hg]
@[simp] theorem Wp_mapG_cons {g : Hh → Bool} {f : PV → M (Option PV)} {x : PV} {xs : List PV} {Ψ : List PV → Hh → Prop} : WpX Xc (mapG g f (x :: xs)) h Ψ ↔ g h = true ∧ WpX Xc (f x) h fun o h => WpX Xc (mapG g f xs) h fun r h => Ψ (o.toList ++ r) h := by
  by_cases hg : g h = true
  · have e : WpX Xc (mapG g f (x :: xs)) h Ψ ↔ WpX Xc (f x >>= fun o => (mapG g f xs >>= fun r => pure (o.toList ++ r))) h Ψ := by
      simp only [Wp_iff]
      unfold Wp0
      rw [mapG_cons, if_pos hg]
    rw [e]
    simp [hg]
  · have e : WpX Xc (mapG g f (x :: xs)) h Ψ ↔ False := by
      rw [Wp_iff]; unfold Wp0; rw [mapG_cons, if_neg hg]
    rw [e]
    simp [hg]
theorem Wp_forG_nil {g : Hh → Bool} {f : PV → Ev → M Fl} {e : Ev} {Γ : Fl → Hh → Prop} : WpX Xc (forG g f [] e) h Γ ↔ g h = true ∧ Γ (.nx e) h := by
  simp only [Wp_iff]
  unfold Wp0
  rw [forG_nil]
  by_cases hg : g h = true <;> simp [hg]
theorem Wp_forG_cons {g : Hh → Bool} {f : PV → Ev → M Fl} {x : PV} {xs : List PV} {e : Ev} {Γ : Fl → Hh → Prop} : WpX Xc (forG g f (x :: xs) e) h Γ ↔ g h = true ∧ WpX Xc (f x e) h fun fl h => match fl with | .nx e' => WpX Xc (forG g f xs e') h Γ | .ct e' => WpX Xc (forG g f xs e') h Γ | .bk e' => Γ (.nx e') h | .rt v => Γ (.rt v) h := by
  by_cases hg : g h = true
  · have e1 : WpX Xc (forG g f (x :: xs) e) h Γ ↔ WpX Xc (f x e >>= loopF (forG g f xs)) h Γ := by
      simp only [Wp_iff]
      unfold Wp0
      rw [forG_cons, if_pos hg]
    rw [e1, Wp_bind]
    have : ∀ (fl : Fl) (h : Hh), WpX Xc (loopF (forG g f xs) fl) h Γ ↔ match fl with | .nx e' => WpX Xc (forG g f xs e') h Γ | .ct e' => WpX Xc (forG g f xs e') h Γ | .bk e' => Γ (.nx e') h | .rt v => Γ (.rt v) h := fun fl h => by cases fl <;> first | rfl | exact Wp_pure
    simp only [this, hg, true_and]
  · have e1 : WpX Xc (forG g f (x :: xs) e) h Γ ↔ False := by
      rw [Wp_iff]; unfold Wp0; rw [forG_cons, if_neg hg]
    rw [e1]
    simp [hg]
@[simp] theorem revV_tup {l : List PV} : revV h (.tup l) = some (.tup l.reverse) := rfl
@[simp] theorem revV_lst {l : List PV} : revV h (.lst l) = some (.lst l.reverse) := rfl
@[simp] theorem asInt_int {i : Int} : asInt (.int i) = some i := rfl
@[simp] theorem slV_lst {l : List PV} {a b : Option Int} : slV h (.lst l) a b = some (.lst (cut l a b)) := rfl
@[simp] theorem slV_tup {l : List PV} {a b : Option Int} : slV h (.tup l) a b = some (.tup (cut l a b)) := rfl
@[simp] theorem slV_scr {l : List PV} {a b : Option Int} : slV h (.scr l) a b = some (.lst (cut l a b)) := rfl
@[simp] theorem slV_U {i : Nat} {a b : Option Int} : slV h (.ref i) a b = (h[i]?).bind fun o => (obLst o).map fun l => .lst (cut l a b) := by
  unfold slV
  cases e : h[i]? with
  | none => simp [e]
  | some o => cases o <;> simp [e, obLst]
@[simp] theorem Str.len_app (a b : Str) : (a ++ b).length = a.length + b.length := by
  show (a.cps ++ b.cps).size = _
  exact Array.size_append
theorem rng1_nat {n : Nat} (hn : n ≤ SZ) : rng1V (.int (n : Int)) = some (rangeL 0 n) := by
  have : (iN (n : Int) && decide ((n : Int).toNat ≤ SZ)) = true := by
    have hz : SZ = 16777216 := rfl
    unfold iN
    rw [Bool.and_eq_true, decide_eq_true_eq, decide_eq_true_eq, Int.toNat_natCast]
    refine ⟨?_, hn⟩
    constructor <;> omega
  show (if (iN (n : Int) && decide ((n : Int).toNat ≤ SZ)) = true then some (rangeL 0 (n : Int).toNat) else none) = _
  rw [if_pos this, Int.toNat_natCast]
theorem ixN_in {n : Nat} {z : Int} (z0 : 0 ≤ z) (z1 : z < n) : L2.ixN n z = some z.toNat := by
  unfold L2.ixN
  rw [if_pos z0, if_pos z1]
theorem atI_in {α} {l : List α} {z : Int} (z0 : 0 ≤ z) (z1 : z < l.length) : ∃ x, L2.atI l z = some x ∧ x ∈ l := by
  unfold L2.atI
  rw [ixN_in z0 z1]
  have : z.toNat < l.length := by omega
  exact ⟨l[z.toNat], List.getElem?_eq_getElem this, List.getElem_mem _⟩
theorem map_eraseIdx {α β} (f : α → β) : ∀ (l : List α) (n : Nat), (l.map f).eraseIdx n = (l.eraseIdx n).map f
  | [], n => by simp
  | a :: l, 0 => rfl
  | a :: l, n + 1 => by simp [map_eraseIdx f l n]
end
end Y

/-! K12: heaps that a drawing machine owns in part; whole values; more rules for runs -/
namespace Y
open PySem
variable {Xc : Nat → List PV → Prop}

/-- from h to h': what is not in S stands, and is not taken -/
structure Step (S : List Nat) (h : Hh) (S' : List Nat) (h' : Hh) : Prop where
  len : h.length ≤ h'.length
  keep : ∀ i, i < h.length → i ∉ S → h'[i]? = h[i]? ∧ i ∉ S'
theorem Step.refl {S : List Nat} {h : Hh} : Step S h S h := ⟨Nat.le_refl _, fun _ _ n => ⟨rfl, n⟩⟩
theorem Step.trans {S S1 S2 : List Nat} {h h1 h2 : Hh} (a : Step S h S1 h1) (b : Step S1 h1 S2 h2) : Step S h S2 h2 :=
  ⟨Nat.le_trans a.len b.len, fun i hi n => by
    obtain ⟨e1, n1⟩ := a.keep i hi n
    obtain ⟨e2, n2⟩ := b.keep i (Nat.lt_of_lt_of_le hi a.len) n1
    exact ⟨e2.trans e1, n2⟩⟩
/-- an object of the caller's own -/
structure At (S : List Nat) (h : Hh) (t : Nat) (o : Ob) : Prop where
  get : h[t]? = some o
  nin : t ∉ S
theorem At.lt {S : List Nat} {h : Hh} {t : Nat} {o : Ob} (a : At S h t o) : t < h.length := (List.getElem?_eq_some_iff.mp a.get).1
theorem At.step {S S' : List Nat} {h h' : Hh} {t : Nat} {o : Ob} (a : At S h t o) (s : Step S h S' h') : At S' h' t o := by
  obtain ⟨e, n⟩ := s.keep t a.lt a.nin
  exact ⟨e.trans a.get, n⟩
theorem At.set {S : List Nat} {h : Hh} {t : Nat} {o : Ob} (a : At S h t o) (o' : Ob) : At S (h.set t o') t o' := ⟨by rw [List.getElem?_set_self a.lt], a.nin⟩
theorem At.other {S : List Nat} {h : Hh} {t u : Nat} {o : Ob} (a : At S h t o) (n : u ≠ t) (o' : Ob) : At S (h.set u o') t o := ⟨by rw [List.getElem?_set_ne n]; exact a.get, a.nin⟩
theorem At.push {S : List Nat} {h : Hh} {t : Nat} {o : Ob} (a : At S h t o) (l : Hh) : At S (h ++ l) t o := ⟨by rw [List.getElem?_append_left a.lt]; exact a.get, a.nin⟩
theorem At.new {S : List Nat} {h : Hh} {o : Ob} (n : ∀ i ∈ S, i < h.length) : At S (h ++ [o]) h.length o := ⟨by simp, fun m => Nat.lt_irrefl _ (n _ m)⟩
theorem Step.set {S S' : List Nat} {h h' : Hh} (s : Step S h S' h') {t : Nat} (ht : h.length ≤ t) (o : Ob) : Step S h S' (h'.set t o) :=
  ⟨by rw [List.length_set]; exact s.len, fun i hi n => by
    obtain ⟨e, m⟩ := s.keep i hi n
    exact ⟨by rw [List.getElem?_set_ne (by omega)]; exact e, m⟩⟩
theorem Step.push {S S' : List Nat} {h h' : Hh} (s : Step S h S' h') (l : Hh) : Step S h S' (h' ++ l) :=
  ⟨by rw [List.length_append]; exact Nat.le_trans s.len (Nat.le_add_right _ _), fun i hi n => by
    obtain ⟨e, m⟩ := s.keep i hi n
    exact ⟨by rw [List.getElem?_append_left (Nat.lt_of_lt_of_le hi s.len)]; exact e, m⟩⟩
/-- what the machine owns stands alike -/
def Same (S : List Nat) (h h' : Hh) : Prop := ∀ i ∈ S, h'[i]? = h[i]?
theorem Same.set {S : List Nat} {h : Hh} {t : Nat} (n : t ∉ S) (o : Ob) : Same S h (h.set t o) := fun i hi => List.getElem?_set_ne (by rintro rfl; exact n hi)
theorem Same.push {S : List Nat} {h : Hh} (n : ∀ i ∈ S, i < h.length) (l : Hh) : Same S h (h ++ l) := fun i hi => List.getElem?_append_left (n i hi)

/-! a loop over a list told by its items -/
section
variable {ι : Type} {Γ : Fl → Hh → Prop}
theorem Wp_forM {g : Hh → Bool} {f : PV → Ev → M Fl} (A : ι → PV) (I : List ι → Ev → Hh → Prop) (hg : ∀ r e h, I r e h → g h = true)
    (step : ∀ x r e h, I (x :: r) e h → WpX Xc (f (A x) e) h fun fl h' => match fl with | .nx e' => I r e' h' | .ct e' => I r e' h' | .bk e' => Γ (.nx e') h' | .rt v => Γ (.rt v) h')
    (done : ∀ e h, I [] e h → Γ (.nx e) h) (l : List ι) (env : Ev) (h : Hh) (h0 : I l env h) : WpX Xc (forG g f (l.map A) env) h Γ := by
  refine Wp_for (fun r e h => ∃ r', r = r'.map A ∧ I r' e h) (fun r e h ⟨r', _, q⟩ => hg r' e h q) ?_ ?_ _ _ _ ⟨l, rfl, h0⟩
  · rintro x r e h ⟨r', er, q⟩
    cases r' with
    | nil => cases er
    | cons y r' =>
      rw [List.map_cons] at er
      injection er with e1 e2
      subst e1 e2
      refine Wp_mono (step y r' e h q) fun fl h' q => ?_
      cases fl with
      | nx e' => exact ⟨r', rfl, q⟩
      | ct e' => exact ⟨r', rfl, q⟩
      | bk e' => exact q
      | rt v => exact q
  · rintro e h ⟨r', er, q⟩
    cases r' with
    | nil => exact done e h q
    | cons => cases er
/-- .. over range(n) -/
theorem rangeL_map : ∀ (n : Nat) (a : Int), rangeL a n = (List.range n).map fun i => .int (a + (i : Nat))
  | 0, a => rfl
  | n + 1, a => by
    rw [rangeL, rangeL_map n (a + 1), List.range_succ_eq_map, List.map_cons, List.map_map]
    congr 1
    · simp
    · refine List.map_congr_left fun i _ => ?_
      simp only [Function.comp, Nat.succ_eq_add_one]
      congr 1
      omega
theorem rangeL0_map (n : Nat) : rangeL 0 n = (List.range n).map fun i => PV.int (i : Nat) := by
  rw [rangeL_map]
  exact List.map_congr_left fun i _ => by simp
/-- a loop over range(n), by the turn -/
theorem Wp_forN {g : Hh → Bool} {f : PV → Ev → M Fl} (n : Nat) (I : Nat → Ev → Hh → Prop) (hg : ∀ i e h, I i e h → g h = true)
    (step : ∀ i e h, i < n → I i e h → WpX Xc (f (.int i) e) h fun fl h' => match fl with | .nx e' => I (i + 1) e' h' | .ct e' => I (i + 1) e' h' | .bk e' => Γ (.nx e') h' | .rt v => Γ (.rt v) h')
    (done : ∀ e h, I n e h → Γ (.nx e) h) (env : Ev) (h : Hh) (h0 : I 0 env h) : WpX Xc (forG g f (rangeL 0 n) env) h Γ := by
  have key : ∀ (k i : Nat) (env : Ev) (h : Hh), i + k = n → I i env h → WpX Xc (forG g f (rangeL i k) env) h Γ := by
    intro k
    induction k with
    | zero =>
      intro i env h e q
      refine Wp_for (fun r e h => r = [] ∧ I n e h) (fun r e h ⟨_, q⟩ => hg n e h q) (fun x r e h ⟨er, _⟩ => by cases er) (fun e h ⟨_, q⟩ => done e h q) _ _ _ ⟨rfl, ?_⟩
      have : i = n := by omega
      rw [← this]; exact q
    | succ k ih =>
      intro i env h e q
      have hi : i < n := by omega
      rw [Wp_iff]
      unfold Wp0
      rw [rangeL, forG_cons, if_pos (hg _ _ _ q)]
      have := (Wp_bind (m := f (.int i) env) (k := loopF (forG g f (rangeL ((i : Int) + 1) k)))).mpr (Wp_mono (step i env h hi q) fun fl h' q => by
        have e1 : ((i : Int) + 1) = ((i + 1 : Nat) : Int) := by omega
        cases fl with
        | nx e' => show WpX Xc (forG g f (rangeL _ k) e') h' Γ; rw [e1]; exact ih (i + 1) e' h' (by omega) q
        | ct e' => show WpX Xc (forG g f (rangeL _ k) e') h' Γ; rw [e1]; exact ih (i + 1) e' h' (by omega) q
        | bk e' => exact Wp_pure.mpr q
        | rt v => exact Wp_pure.mpr q)
      rw [Wp_iff] at this
      exact this
  exact key n 0 env h (by omega) h0
end
/-! comprehensions without a heap's change -/
/-- kept and made, item by item, in a heap that stays -/
theorem mapG_filter {ι : Type} {g : Hh → Bool} {f : PV → M (Option PV)} {A B : ι → PV} {p : ι → Bool} {h : Hh} (hg : g h = true) : ∀ {l : List ι}, (∀ x ∈ l, f (A x) h = .ok (if p x then some (B x) else none) h) → mapG g f (l.map A) h = .ok ((l.filter p).map B) h
  | [], _ => by
    unfold mapG
    simp only [List.map_nil, List.filter_nil]
    rw [if_pos hg]
  | x :: l, hf => by
    rw [List.map_cons]
    unfold mapG
    rw [if_pos hg, hf x (List.mem_cons_self ..)]
    simp only
    rw [mapG_filter hg fun y hy => hf y (List.mem_cons_of_mem _ hy)]
    cases e : p x <;> simp [List.filter_cons, e]
theorem bindG_flat {ι : Type} {g : Hh → Bool} {f : PV → M (List PV)} {A : ι → PV} {B : ι → List PV} {h : Hh} (hg : g h = true) : ∀ {l : List ι}, (∀ x ∈ l, f (A x) h = .ok (B x) h) → bindG g f (l.map A) h = .ok (l.flatMap B) h
  | [], _ => by
    unfold bindG
    simp only [List.map_nil, List.flatMap_nil]
    rw [if_pos hg]
  | x :: l, hf => by
    rw [List.map_cons]
    unfold bindG
    rw [if_pos hg, hf x (List.mem_cons_self ..)]
    simp only
    rw [bindG_flat hg fun y hy => hf y (List.mem_cons_of_mem _ hy)]
    simp
/-- a comprehension whose turns change the heap: by an invariant over what is made -/
theorem Wp_mapI {ι : Type} {g : Hh → Bool} {f : PV → M (Option PV)} {Ψ : List PV → Hh → Prop} (A : ι → PV) (I : List ι → List PV → Hh → Prop) (hg : ∀ r ys h, I r ys h → g h = true)
    (step : ∀ x r ys h, I (x :: r) ys h → WpX Xc (f (A x)) h fun o h' => I r (ys ++ o.toList) h') (done : ∀ ys h, I [] ys h → Ψ ys h) (l : List ι) (h : Hh) (h0 : I l [] h) : WpX Xc (mapG g f (l.map A)) h Ψ := by
  have := Wp_map (g := g) (f := f) (Ψ := Ψ) (fun r ys h => ∃ r', r = r'.map A ∧ I r' ys h) (fun r ys h ⟨r', _, q⟩ => hg r' ys h q) (fun x r ys h ⟨r', er, q⟩ => by
    cases r' with
    | nil => cases er
    | cons y r' =>
      rw [List.map_cons] at er
      injection er with e1 e2
      subst e1 e2
      exact Wp_mono (step y r' ys h q) fun o h' q => ⟨r', rfl, q⟩) (fun ys h ⟨r', er, q⟩ => by
    cases r' with
    | nil => exact done ys h q
    | cons => cases er) (l.map A) [] h ⟨l, rfl, h0⟩
  simpa using this
/-! data: what a law compares whole -/
mutual
/-- how many things there are within, itself too -/
def nodes : PV → Nat
  | .tup l => nodesL l + 1
  | _ => 1
def nodesL : List PV → Nat
  | [] => 0
  | x :: xs => nodes x + nodesL xs
end
theorem nodesL_append : ∀ (a b : List PV), nodesL (a ++ b) = nodesL a + nodesL b
  | [], b => by simp [nodesL]
  | x :: a, b => by simp [nodesL, nodesL_append a b]; omega
theorem nodes_pos (x : PV) : 1 ≤ nodes x := by cases x <;> simp [nodes]
theorem len_nodes : ∀ m : List PV, m.length ≤ nodesL m
  | [] => Nat.le_refl _
  | x :: m => by
    have := nodes_pos x
    have := len_nodes m
    simp only [nodesL, List.length_cons]
    omega
mutual
theorem imm_sdat : ∀ (v : PV), sdat v = true → imm v = true
  | .int _, _ => rfl
  | .str _, _ => rfl
  | .tup l, h => by
    simp only [sdat] at h
    exact imms_sdats l h
  | .non, h => by simp [sdat] at h
  | .bl _, h => by simp [sdat] at h
  | .lst _, h => by simp [sdat] at h
  | .dct _ _, h => by simp [sdat] at h
  | .ref _, h => by simp [sdat] at h
  | .scr _, h => by simp [sdat] at h
theorem imms_sdats : ∀ (l : List PV), sdats l = true → imms l = true
  | [], _ => rfl
  | x :: l, h => by
    simp only [sdats, Bool.and_eq_true] at h
    simp only [imms, Bool.and_eq_true]
    exact ⟨imm_sdat x h.1, imms_sdats l h.2⟩
end
@[simp] theorem sdat_int {i : Int} : sdat (.int i) = true := rfl
@[simp] theorem sdat_str {i : Str} : sdat (.str i) = true := rfl
@[simp] theorem sdat_tup {l : List PV} : sdat (.tup l) = sdats l := rfl
@[simp] theorem sdats_nil : sdats [] = true := rfl
@[simp] theorem sdats_cons {x : PV} {l : List PV} : sdats (x :: l) = (sdat x && sdats l) := rfl
@[simp] theorem sdats_append {a b : List PV} : sdats (a ++ b) = (sdats a && sdats b) := by
  induction a with
  | nil => simp
  | cons x a ih => simp [ih, Bool.and_assoc]
theorem sdats_iff {l : List PV} : sdats l = true ↔ ∀ x ∈ l, sdat x = true := by
  induction l with
  | nil => simp
  | cons x l ih => simp [ih]
theorem sdats_map {α} {f : α → PV} {l : List α} (h : ∀ x ∈ l, sdat (f x) = true) : sdats (l.map f) = true := sdats_iff.mpr (by simpa using h)
@[simp] theorem nodes_int {i : Int} : nodes (.int i) = 1 := rfl
@[simp] theorem nodes_str {i : Str} : nodes (.str i) = 1 := rfl
@[simp] theorem nodes_tup {l : List PV} : nodes (.tup l) = nodesL l + 1 := rfl
@[simp] theorem nodesL_nil : nodesL [] = 0 := rfl
@[simp] theorem nodesL_cons {x : PV} {l : List PV} : nodesL (x :: l) = nodes x + nodesL l := rfl
theorem nodesL_map {α} {f : α → PV} {b : Nat} : ∀ {l : List α}, (∀ x ∈ l, nodes (f x) ≤ b) → nodesL (l.map f) ≤ l.length * b
  | [], _ => by simp
  | x :: l, h => by
    have h1 := h x (List.mem_cons_self ..)
    have h2 := nodesL_map (l := l) fun y hy => h y (List.mem_cons_of_mem _ hy)
    simp only [List.map_cons, nodesL_cons, List.length_cons, Nat.add_mul, Nat.one_mul]
    omega
theorem Wp_whl {c : Ev → M Bool} {b : Ev → M Fl} {n : Nat} {env : Ev} {h : Hh} {Γ : Fl → Hh → Prop} : WpX Xc (whileF c b (n + 1) env) h Γ ↔ WpX Xc (c env) h fun kk h => if kk = true then WpX Xc (b env) h fun f h => match f with | .nx e => WpX Xc (whileF c b n e) h Γ | .ct e => WpX Xc (whileF c b n e) h Γ | .bk e => Γ (.nx e) h | .rt v => Γ (.rt v) h else Γ (.nx env) h := by
  rw [whileF_succ, Wp_bind]
  have t : ∀ (f : Fl) (h : Hh), WpX Xc (loopF (whileF c b n) f) h Γ ↔ match f with | .nx e => WpX Xc (whileF c b n e) h Γ | .ct e => WpX Xc (whileF c b n e) h Γ | .bk e => Γ (.nx e) h | .rt v => Γ (.rt v) h := fun f h => by cases f <;> first | rfl | exact Wp_pure
  simp only [Wp_ite, Wp_bind, Wp_pure, t]
/-- a run of closed data, by computing -/
def isT : R PV → Bool
  | .ok (.bl true) _ => true
  | _ => false
theorem isT_ok {r : R PV} (e : isT r = true) : ∃ h, r = .ok (.bl true) h := by
  cases r with
  | err => cases e
  | ex c fs h => cases e
  | ok v h =>
    cases v with
    | bl b => cases b with
      | true => exact ⟨h, rfl⟩
      | false => cases e
    | _ => cases e
theorem call_T {cf : CF} {f : Nat} {h : Hh} (e : isT (cf f [] []) = true) : callM cf false f [] h = .ok (.bl true) h := by
  obtain ⟨h', e⟩ := isT_ok e
  exact callP_imm' rfl e rfl
end Y

/-! K13: enumerate's loops; lists of one thing -/
namespace Y
open PySem
variable {Xc : Nat → List PV → Prop}
section
variable {ι : Type} {Γ : Fl → Hh → Prop}
/-- a loop over enumerate(l), by the turn -/
theorem Wp_forE {g : Hh → Bool} {f : PV → Ev → M Fl} (A : ι → PV) (l : List ι) (I : Nat → Ev → Hh → Prop) (hg : ∀ i e h, I i e h → g h = true)
    (step : ∀ i x e h, l[i]? = some x → I i e h → WpX Xc (f (.tup [.int i, A x]) e) h fun fl h' => match fl with | .nx e' => I (i + 1) e' h' | .ct e' => I (i + 1) e' h' | .bk e' => Γ (.nx e') h' | .rt v => Γ (.rt v) h')
    (done : ∀ e h, I l.length e h → Γ (.nx e) h) (env : Ev) (h : Hh) (h0 : I 0 env h) : WpX Xc (forG g f (enumL 0 (l.map A)) env) h Γ := by
  have key : ∀ (r : List ι) (i : Nat) (env : Ev) (h : Hh), l = l.take i ++ r → i + r.length = l.length → I i env h → WpX Xc (forG g f (enumL i (r.map A)) env) h Γ := by
    intro r
    induction r with
    | nil =>
      intro i env h _ hi q
      simp at hi
      subst hi
      exact Wp_forG_nil.mpr ⟨hg _ _ _ q, done _ _ q⟩
    | cons x r ih =>
      intro i env h el hi q
      simp at hi
      have ex : l[i]? = some x := by
        have hlen : (l.take i).length = i := by rw [List.length_take]; omega
        rw [el, List.getElem?_append_right (by omega), hlen, Nat.sub_self]; rfl
      have hil : i < l.length := by omega
      have el' : l = l.take (i + 1) ++ r := by
        rw [List.take_succ_eq_append_getElem hil]
        have : l[i] = x := by rw [List.getElem?_eq_getElem hil] at ex; injection ex
        rw [this, List.append_assoc]
        exact el
      refine Wp_forG_cons.mpr ⟨hg _ _ _ q, Wp_mono (step i x env h ex q) fun fl h' q => ?_⟩
      cases fl with
      | nx e' => exact ih (i + 1) e' h' el' (by omega) q
      | ct e' => exact ih (i + 1) e' h' el' (by omega) q
      | bk e' => exact q
      | rt v => exact q
  exact key l 0 env h (by simp) (by simp) h0
end
@[simp] theorem mtT_get1 {h : Hh} {i : Nat} : mtT h .get1 (.ref i) = (h[i]?).bind fun o => (obDct o).map fun _ => () := by show (dctOf h (.ref i)).map _ = _; rw [dctOf_U]; cases h[i]? <;> rfl
@[simp] theorem get1_U {h : Hh} {i : Nat} {x : PV} {Φ : PV → Hh → Prop} : WpX Xc (mGet1 (.ref i) [x]) h Φ ↔ OW h[i]? fun o => OW (obDct o) fun q => isKey x = true ∧ Φ ((dget x q.1 q.2).getD .non) h := by
  rw [Wp_iff]
  unfold Wp0 mGet1
  simp only [dctOf_U]
  cases e : h[i]? with
  | none => simp [e]
  | some o =>
    cases o with
    | lst l => simp [e, obDct]
    | dct ks vs =>
      simp only [obDct_dct, OW_some, Option.bind_some]
      by_cases q : isKey x = true
      · rw [if_pos q]; simp [q]
      · rw [if_neg q]; simp [q]
@[simp] theorem permL_nil {ws : List PV} : permL [] ws = some [] := rfl
@[simp] theorem permL_cons {i : Nat} {is : List Nat} {ws : List PV} : permL (i :: is) ws = (ws[i]?).bind fun w => (permL is ws).map fun r => w :: r := by
  unfold permL
  rw [List.mapM_cons]
  cases ws[i]? with
  | none => rfl
  | some a =>
    cases e : List.mapM (fun i => ws[i]?) is <;> simp [e] <;> rfl
@[simp] theorem list_tup {h : Hh} {l : List PV} : bi1 h .list [.tup l] = some (.lst l) := rfl
@[simp] theorem list_lst {h : Hh} {l : List PV} : bi1 h .list [.lst l] = some (.lst l) := rfl
@[simp] theorem list_U {h : Hh} {i : Nat} : bi1 h .list [.ref i] = (h[i]?).bind fun o => (obLst o).map .lst := by
  show (seqOf h (.ref i)).map PV.lst = _
  rw [seqOf_U]
  cases h[i]? <;> rfl
theorem ixS_in {z : Str} {i : Int} (i0 : 0 ≤ i) (i1 : i < z.length) (hz : z.length ≤ SZ) : ∃ w : Str, w.length = 1 ∧ ∀ h : Hh, ixV h (.str z) (.int i) = some (.str w) := by
  have hl : z.cps.toList.length = z.length := by simp [Str.length]
  obtain ⟨c, ec, _⟩ := atI_in (l := z.cps.toList) i0 (by rw [hl]; exact i1)
  refine ⟨⟨#[c]⟩, rfl, fun h => ?_⟩
  show (if z.length ≤ SZ then (L2.atI z.cps.toList i).map fun c => PV.str ⟨#[c]⟩ else none) = _
  rw [if_pos hz, ec]
  rfl
theorem min2_nat {h : Hh} {a b : Nat} : bi1 h .min2 [.int a, .int b] = some (.int (min a b : Nat)) := by
  show some (PV.int (if (b : Int) < (a : Int) then (b : Int) else (a : Int))) = _
  congr 2
  split <;> omega
theorem S_app {cf : CF} {b : List S} : ∀ {a : List S} {env : Ev} {h : Hh} {Γ : Fl → Hh → Prop}, WpX Xc (evSs cf (a ++ b) env) h Γ ↔ WpX Xc (evSs cf a env) h fun f h => match f with | .nx e => WpX Xc (evSs cf b e) h Γ | r => Γ r h
  | [], env, h, Γ => by rw [List.nil_append, S_nil]
  | s :: a, env, h, Γ => by
    rw [List.cons_append, S_cons, S_cons]
    constructor
    · intro q
      refine Wp_mono q fun f h q => ?_
      cases f with
      | nx e => exact S_app.mp q
      | _ => exact q
    · intro q
      refine Wp_mono q fun f h q => ?_
      cases f with
      | nx e => exact S_app.mpr q
      | _ => exact q
/-- a body cut in two -/
theorem S_cut {cf : CF} (n : Nat) {b : List S} {env : Ev} {h : Hh} {Γ : Fl → Hh → Prop} (q : WpX Xc (evSs cf (b.take n) env) h fun f h => match f with | .nx e => WpX Xc (evSs cf (b.drop n) e) h Γ | r => Γ r h) : WpX Xc (evSs cf b env) h Γ := by
  rw [← List.take_append_drop n b]
  exact S_app.mpr q
@[simp] theorem mul_lst1 {h : Hh} {x : PV} {n : Nat} : op2 h .mul (.lst [x]) (.int (n : Int)) = if n ≤ SZ then some (.lst (List.replicate n x)) else none := by
  have e : (List.replicate n [x]).flatten = List.replicate n x := by
    induction n with
    | zero => rfl
    | succ n ih => rw [List.replicate_succ, List.flatten_cons, ih]; rfl
  have hz : SZ = 16777216 := rfl
  have e0 : lstOf h (.lst [x]) = some [x] := rfl
  unfold op2
  simp only [e0, Int.toNat_natCast, e, List.length_singleton, Nat.one_mul]
  by_cases c : n ≤ SZ
  · rw [if_pos c, if_pos ⟨by omega, by omega, c⟩]
  · rw [if_neg c, if_neg (by intro q; exact c q.2.2)]
end Y

/-! K14: data with none and truth values -/
namespace Y
open PySem
variable {Xc : Nat → List PV → Prop}
mutual
/-- ints, texts, truth values, none, tuples of them -/
def gdat : PV → Bool
  | .non => true
  | .bl _ => true
  | .int _ => true
  | .str _ => true
  | .tup l => gdats l
  | _ => false
def gdats : List PV → Bool
  | [] => true
  | x :: l => gdat x && gdats l
end
mutual
theorem imm_gdat : ∀ (v : PV), gdat v = true → imm v = true
  | .int _, _ => rfl
  | .str _, _ => rfl
  | .non, _ => rfl
  | .bl _, _ => rfl
  | .tup l, h => by
    simp only [gdat] at h
    exact imms_gdats l h
  | .lst _, h => by simp [gdat] at h
  | .dct _ _, h => by simp [gdat] at h
  | .ref _, h => by simp [gdat] at h
  | .scr _, h => by simp [gdat] at h
theorem imms_gdats : ∀ (l : List PV), gdats l = true → imms l = true
  | [], _ => rfl
  | x :: l, h => by
    simp only [gdats, Bool.and_eq_true] at h
    simp only [imms, Bool.and_eq_true]
    exact ⟨imm_gdat x h.1, imms_gdats l h.2⟩
end
@[simp] theorem gdat_non : gdat .non = true := rfl
@[simp] theorem gdat_bl {b : Bool} : gdat (.bl b) = true := rfl
@[simp] theorem gdat_int {i : Int} : gdat (.int i) = true := rfl
@[simp] theorem gdat_str {i : Str} : gdat (.str i) = true := rfl
@[simp] theorem gdat_tup {l : List PV} : gdat (.tup l) = gdats l := rfl
@[simp] theorem gdats_nil : gdats [] = true := rfl
@[simp] theorem gdats_cons {x : PV} {l : List PV} : gdats (x :: l) = (gdat x && gdats l) := rfl
@[simp] theorem gdats_append {a b : List PV} : gdats (a ++ b) = (gdats a && gdats b) := by
  induction a with
  | nil => simp
  | cons x a ih => simp [ih, Bool.and_assoc]
theorem gdats_iff {l : List PV} : gdats l = true ↔ ∀ x ∈ l, gdat x = true := by
  induction l with
  | nil => simp
  | cons x l ih => simp [ih]
theorem gdats_map {α} {f : α → PV} {l : List α} (h : ∀ x ∈ l, gdat (f x) = true) : gdats (l.map f) = true := gdats_iff.mpr (by simpa using h)
theorem gdats_all {l : List PV} (h : gdats l = true) : l.all gdat = true := List.all_eq_true.mpr (gdats_iff.mp h)
mutual
theorem gdat_sdat : ∀ (v : PV), sdat v = true → gdat v = true
  | .int _, _ => rfl
  | .str _, _ => rfl
  | .tup l, h => by
    simp only [sdat] at h
    exact gdats_sdats l h
  | .non, _ => rfl
  | .bl _, _ => rfl
  | .lst _, h => by simp [sdat] at h
  | .dct _ _, h => by simp [sdat] at h
  | .ref _, h => by simp [sdat] at h
  | .scr _, h => by simp [sdat] at h
theorem gdats_sdats : ∀ (l : List PV), sdats l = true → gdats l = true
  | [], _ => rfl
  | x :: l, h => by
    simp only [sdats, Bool.and_eq_true] at h
    simp only [gdats, Bool.and_eq_true]
    exact ⟨gdat_sdat x h.1, gdats_sdats l h.2⟩
end
@[simp] theorem nodes_non : nodes .non = 1 := rfl
@[simp] theorem nodes_bl {b : Bool} : nodes (.bl b) = 1 := rfl
end Y

/-! K15: tables by any keys; data without texts -/
namespace Y
open PySem
variable {Xc : Nat → List PV → Prop}
theorem dget_key {ι : Type} {f : ι → PV} {x : PV} : ∀ {ks : List PV} {vs : List ι}, ks.length = vs.length → x ∈ ks → ∃ p ∈ vs, dget x ks (vs.map f) = some (f p)
  | k :: ks, v :: vs, hl, hm => by
    simp only [List.map_cons, dget]
    by_cases hk : k = x
    · exact ⟨v, List.mem_cons_self .., by rw [if_pos hk]⟩
    · obtain ⟨p, hp, e⟩ := dget_key (f := f) (ks := ks) (vs := vs) (x := x) (by simpa using hl) (by
        rcases List.mem_cons.mp hm with q | q
        · exact absurd q.symm hk
        · exact q)
      exact ⟨p, List.mem_cons_of_mem _ hp, by rw [if_neg hk]; exact e⟩
theorem dget_nokey {x : PV} : ∀ {ks vs : List PV}, x ∉ ks → dget x ks vs = none
  | [], vs, _ => by cases vs <;> rfl
  | k :: ks, [], _ => rfl
  | k :: ks, v :: vs, hm => by
    simp only [dget]
    rw [if_neg (by intro q; exact hm (by simp [q]))]
    exact dget_nokey (fun q => hm (List.mem_cons_of_mem _ q))
theorem dput_newkey {x v : PV} {ks vs : List PV} (hm : x ∉ ks) : dput x v ks vs = (ks ++ [x], vs ++ [v]) := by
  unfold dput
  rw [if_neg]
  simp only [List.any_eq_true, decide_eq_true_eq]
  rintro ⟨y, hy, rfl⟩
  exact hm hy
mutual
/-- ints, truth values, none, tuples of them -/
def idat : PV → Bool
  | .non => true
  | .bl _ => true
  | .int _ => true
  | .tup l => idats l
  | _ => false
def idats : List PV → Bool
  | [] => true
  | x :: l => idat x && idats l
end
mutual
theorem gdat_idat : ∀ (v : PV), idat v = true → gdat v = true
  | .int _, _ => rfl
  | .non, _ => rfl
  | .bl _, _ => rfl
  | .tup l, h => by
    simp only [idat] at h
    exact gdats_idats l h
  | .str _, h => by simp [idat] at h
  | .lst _, h => by simp [idat] at h
  | .dct _ _, h => by simp [idat] at h
  | .ref _, h => by simp [idat] at h
  | .scr _, h => by simp [idat] at h
theorem gdats_idats : ∀ (l : List PV), idats l = true → gdats l = true
  | [], _ => rfl
  | x :: l, h => by
    simp only [idats, Bool.and_eq_true] at h
    simp only [gdats, Bool.and_eq_true]
    exact ⟨gdat_idat x h.1, gdats_idats l h.2⟩
end
@[simp] theorem idat_non : idat .non = true := rfl
@[simp] theorem idat_bl {b : Bool} : idat (.bl b) = true := rfl
@[simp] theorem idat_int {i : Int} : idat (.int i) = true := rfl
@[simp] theorem idat_tup {l : List PV} : idat (.tup l) = idats l := rfl
@[simp] theorem idats_nil : idats [] = true := rfl
@[simp] theorem idats_cons {x : PV} {l : List PV} : idats (x :: l) = (idat x && idats l) := rfl
theorem idats_iff {l : List PV} : idats l = true ↔ ∀ x ∈ l, idat x = true := by
  induction l with
  | nil => simp
  | cons x l ih => simp [ih]
theorem idats_map {α} {f : α → PV} {l : List α} (h : ∀ x ∈ l, idat (f x) = true) : idats (l.map f) = true := idats_iff.mpr (by simpa using h)
theorem idats_all {l : List PV} (h : idats l = true) : l.all idat = true := List.all_eq_true.mpr (idats_iff.mp h)
theorem imm_idat (v : PV) (h : idat v = true) : imm v = true := imm_gdat v (gdat_idat v h)
@[simp] theorem ixN_m1 {n : Nat} : L2.ixN (n + 1) (-1) = some n := by
  unfold L2.ixN
  rw [if_neg (by decide), if_pos (by omega)]
  congr 1
  omega
theorem mulS {a : Str} {k : Int} (ha : a.length ≤ 16) (k0 : 0 ≤ k) (k1 : k ≤ 1000) : ∃ w : Str, w.length ≤ 16000 ∧ ∀ h : Hh, op2 h .mul (.str a) (.int k) = some (.str w) := by
  refine ⟨Txt.mul a k, ?_, fun h => if_pos ⟨ha, by omega, by omega⟩⟩
  have e := PyProof.Rows.len_mul a k
  rw [if_neg (by simp; omega)] at e
  have h2 : (a.length : Int) * k ≤ 16 * 1000 := Int.mul_le_mul (by omega) k1 k0 (by decide)
  omega
end Y

/-! K16: closed runs in parts, by computing -/
namespace Y
open PySem
variable {Xc : Nat → List PV → Prop}
/-- a run of closed statements that goes on, in an empty heap -/
def isNx : R Fl → Ev → Bool
  | .ok (.nx e) [], e' => decide (e = e')
  | _, _ => false
theorem isNx_ok {r : R Fl} {e : Ev} (h : isNx r e = true) : r = .ok (.nx e) [] := by
  unfold isNx at h
  split at h
  · have : _ = _ := of_decide_eq_true h
    subst this
    rfl
  · cases h
def isRt : R Fl → PV → Bool
  | .ok (.rt v) _, v' => decide (v = v')
  | _, _ => false
theorem isRt_ok {r : R Fl} {v : PV} (h : isRt r v = true) : ∃ g, r = .ok (.rt v) g := by
  unfold isRt at h
  split at h
  · have : _ = _ := of_decide_eq_true h
    subst this
    exact ⟨_, rfl⟩
  · cases h
theorem Wp_nx {cf : CF} {b : List S} {n : Nat} {e e' : Ev} {Γ : Fl → Hh → Prop} (h : isNx (evSs cf (b.take n) e []) e' = true) (q : WpX Xc (evSs cf (b.drop n) e') [] Γ) : WpX Xc (evSs cf b e) [] Γ :=
  S_cut n (Wp_of (isNx_ok h) q)
theorem Wp_rt {cf : CF} {b : List S} {e : Ev} {v : PV} {Γ : Fl → Hh → Prop} (h : isRt (evSs cf b e []) v = true) (q : ∀ g, Γ (.rt v) g) : WpX Xc (evSs cf b e) [] Γ := by
  obtain ⟨g, e⟩ := isRt_ok h
  exact Wp_of e (q g)
/-! calls with a list of the caller's own -/
mutual
theorem dat_imm : ∀ (v : PV), dat v = true → imm v = true
  | .int _, _ => rfl
  | .str _, _ => rfl
  | .non, _ => rfl
  | .bl _, _ => rfl
  | .tup l, h => by
    simp only [dat] at h
    exact dats_imms l h
  | .lst _, h => by simp [dat] at h
  | .dct _ _, h => by simp [dat] at h
  | .ref _, h => by simp [dat] at h
  | .scr _, h => by simp [dat] at h
theorem dats_imms : ∀ (l : List PV), dats l = true → imms l = true
  | [], _ => rfl
  | x :: l, h => by
    simp only [dats, Bool.and_eq_true] at h
    simp only [imms, Bool.and_eq_true]
    exact ⟨dat_imm x h.1, dats_imms l h.2⟩
end
theorem frzs_immN {h : Hh} {n : Nat} : ∀ {ps : List PV}, imms ps = true → ps.mapM (frz h (n + 1)) = some ps
  | [], _ => rfl
  | x :: xs, e => by
    simp only [imms, Bool.and_eq_true] at e
    have e1 : frz h (n + 1) x = some x := by
      unfold frz
      rw [if_pos e.1]
    rw [List.mapM_cons, e1, frzs_immN e.2]
    rfl
theorem frz_ref {h : Hh} {t : Nat} {xs : List PV} (e : h[t]? = some (.lst xs)) (hi : imms xs = true) : frz h frzD (.ref t) = some (.lst xs) := by
  show (if imm (.ref t) = true then some (PV.ref t) else match h[t]? with
      | some (.lst xs) => (xs.mapM (frz h 3)).map .lst
      | some (.dct ks vs) => if imms ks && imms vs then some (.dct ks vs) else none
      | _ => none) = _
  rw [if_neg (by simp [imm]), e]
  simp only
  rw [frzs_immN (n := 2) hi]
  rfl
theorem callP_frz {cf : CF} {f : Nat} {args as : List PV} {v : PV} {h h1 : Hh} (hf : args.mapM (frz h frzD) = some as) (e : cf f as [] = .ok v h1) (hv : dat v = true) : callM cf false f args h = .ok v h := by
  show callP cf f args h = _
  unfold callP
  rw [hf]
  simp only
  rw [e]
  simp only
  rw [frz_imm (dat_imm v hv)]
  simp only
  rw [hv, Bool.or_true, if_pos rfl]
theorem callM_at {cf : CF} {f : Nat} {as : List PV} {v : PV} (hi : imms as = true) (hv : dat v = true) (e : callM cf false f as [] = .ok v []) : ∃ v' h1, cf f as [] = .ok v' h1 ∧ frz h1 frzD v' = some v := by
  have e : callP cf f as [] = .ok v [] := e
  unfold callP at e
  rw [frzs_imm hi] at e
  simp only at e
  cases q : cf f as [] with
  | err => rw [q] at e; cases e
  | ex c fs g => rw [q] at e; simp only at e; split at e <;> cases e
  | ok w g =>
    rw [q] at e
    simp only at e
    cases q2 : frz g frzD w with
    | none => rw [q2] at e; cases e
    | some w' =>
      rw [q2] at e
      simp only at e
      split at e
      · injection e with e1 e2
        exact ⟨w, g, rfl, by rw [← e1]; exact q2⟩
      · cases e
/-- a call that reads lists of the caller's own: as with what they hold -/
theorem callM_frz {cf : CF} {f : Nat} {args as : List PV} {v : PV} {h : Hh} (hf : args.mapM (frz h frzD) = some as) (hi : imms as = true) (hv : dat v = true) (e : callM cf false f as [] = .ok v []) : callM cf false f args h = .ok v h := by
  obtain ⟨w, g, e1, e2⟩ := callM_at hi hv e
  show callP cf f args h = _
  unfold callP
  rw [hf]
  simp only
  rw [e1]
  simp only
  rw [e2]
  simp only
  rw [hv, Bool.or_true, if_pos rfl]
end Y

/-! D1: sentences, lexicons as values; places -/
namespace Z
open PySem Y
inductive Sn where
  | pl (kd : Str) (a b : Nat) | vb (q r : Str) (v : Nat) (w : Int) (a b : Nat)
  deriving DecidableEq, Inhabited
def Sn.V : Sn → PV
  | .pl kd a b => .tup [.str kd, .int a, .int b]
  | .vb q r v w a b => .tup [.str "verb", .str q, .str r, .int v, .int w, .int a, .int b]
def Sn.okN (n m : Nat) : Sn → Prop
  | .pl kd a b => (kd = "all" ∨ kd = "some" ∨ kd = "needs") ∧ a < n ∧ b < n
  | .vb q r v w a b => (q = "all" ∨ q = "some") ∧ (r = "all" ∨ r = "some") ∧ v < m ∧ (w = 0 ∨ w = 1) ∧ a < n ∧ b < n
theorem Sn.V_sdat (s : Sn) : sdat s.V = true := by cases s <;> rfl
theorem Sn.V_imm (s : Sn) : imm s.V = true := imm_sdat _ s.V_sdat
theorem Sn.V_nodes (s : Sn) : nodes s.V ≤ 8 := by cases s <;> simp [Sn.V]
theorem not_verb {kd : Str} (h : kd = "all" ∨ kd = "some" ∨ kd = "needs") : ¬ kd = "verb" := by rcases h with rfl | rfl | rfl <;> decide +kernel
def natsV (p : List Nat) : List PV := p.map fun i => .int (i : Nat)
theorem natsV_len (p : List Nat) : (natsV p).length = p.length := by simp [natsV]
theorem natsV_get {p : List Nat} {i : Nat} : (natsV p)[i]? = (p[i]?).map fun (i : Nat) => PV.int i := by simp [natsV]
theorem natsV_sdats (p : List Nat) : sdats (natsV p) = true := sdats_map fun _ _ => rfl
theorem natsV_imms (p : List Nat) : imms (natsV p) = true := imms_sdats _ (natsV_sdats p)
theorem natsV_nodes (p : List Nat) : nodesL (natsV p) ≤ p.length := by
  have := nodesL_map (f := fun i : Nat => PV.int i) (b := 1) (l := p) fun _ _ => Nat.le_refl _
  simpa [natsV] using this
/-- the sentence with other numbers -/
def Sn.ren (ns vs : List Nat) : Sn → Sn
  | .pl kd a b => .pl kd (ns.getD a 0) (ns.getD b 0)
  | .vb q r v w a b => .vb q r (vs.getD v 0) w (ns.getD a 0) (ns.getD b 0)
theorem ren_ok {ns vs : List Nat} {n m : Nat} (h1 : ∀ i < n, ns.getD i 0 < n) (h2 : ∀ i < m, vs.getD i 0 < m) : ∀ {s : Sn}, s.okN n m → (s.ren ns vs).okN n m
  | .pl kd a b, ⟨k, ha, hb⟩ => ⟨k, h1 _ ha, h1 _ hb⟩
  | .vb q r v w a b, ⟨hq, hr, hv, hw, ha, hb⟩ => ⟨hq, hr, h2 _ hv, hw, h1 _ ha, h1 _ hb⟩
/-! places -/
def setAll {α} (acc : List α) : List Nat → List α → List α
  | i :: p, x :: l => setAll (acc.set i x) p l
  | _, _ => acc
theorem setAll_len {α} : ∀ (p : List Nat) (l acc : List α), (setAll acc p l).length = acc.length
  | [], l, acc => by cases l <;> rfl
  | i :: p, [], acc => rfl
  | i :: p, x :: l, acc => by rw [setAll, setAll_len p l]; simp
theorem setAll_out {α} : ∀ (p : List Nat) (l acc : List α) (j : Nat), j ∉ p → (setAll acc p l)[j]? = acc[j]?
  | [], l, acc, j, h => by cases l <;> rfl
  | i :: p, [], acc, j, h => rfl
  | i :: p, x :: l, acc, j, h => by
    rw [setAll, setAll_out p l _ j (fun m => h (List.mem_cons_of_mem _ m)), List.getElem?_set_ne (fun e => h (by simp [e]))]
theorem setAll_get {α} : ∀ (p : List Nat) (l acc : List α) (i j : Nat), p.Nodup → p.length = l.length → (∀ k ∈ p, k < acc.length) → p[i]? = some j → (setAll acc p l)[j]? = l[i]?
  | [], l, acc, i, j, _, _, _, h => by simp at h
  | k :: p, [], acc, i, j, _, hl, _, h => by simp at hl
  | k :: p, x :: l, acc, 0, j, hn, hl, hb, h => by
    simp at h
    subst h
    rw [List.nodup_cons] at hn
    rw [setAll, setAll_out p l _ k hn.1, List.getElem?_set_self (hb k (List.mem_cons_self ..))]
    rfl
  | k :: p, x :: l, acc, i + 1, j, hn, hl, hb, h => by
    rw [List.nodup_cons] at hn
    rw [setAll, setAll_get p l (acc.set k x) i j hn.2 (by simpa using hl) (fun q m => by rw [List.length_set]; exact hb q (List.mem_cons_of_mem _ m)) (by simpa using h)]
    rfl
theorem setAll_snoc {α} : ∀ (p : List Nat) (l acc : List α) (i : Nat) (x : α), p.length = l.length → setAll acc (p ++ [i]) (l ++ [x]) = (setAll acc p l).set i x
  | [], [], acc, i, x, _ => rfl
  | [], y :: l, acc, i, x, h => by simp at h
  | k :: p, [], acc, i, x, h => by simp at h
  | k :: p, y :: l, acc, i, x, h => by
    rw [List.cons_append, List.cons_append, setAll, setAll, setAll_snoc p l _ i x (by simpa using h)]
/-- all places, each once -/
structure Perms (n : Nat) (p : List Nat) : Prop where
  perm : p.Perm (List.range n)
theorem Perms.len {n : Nat} {p : List Nat} (h : Perms n p) : p.length = n := by rw [h.perm.length_eq, List.length_range]
theorem Perms.nodup {n : Nat} {p : List Nat} (h : Perms n p) : p.Nodup := h.perm.nodup_iff.mpr List.nodup_range
theorem Perms.lt {n : Nat} {p : List Nat} (h : Perms n p) {i : Nat} (m : i ∈ p) : i < n := List.mem_range.mp (h.perm.mem_iff.mp m)
theorem Perms.at {n : Nat} {p : List Nat} (h : Perms n p) {j : Nat} (hj : j < n) : ∃ i, i < n ∧ p[i]? = some j := by
  obtain ⟨i, hi⟩ := List.getElem?_of_mem (h.perm.mem_iff.mpr (List.mem_range.mpr hj))
  exact ⟨i, by have := (List.getElem?_eq_some_iff.mp hi).1; rw [h.len] at this; exact this, hi⟩
theorem Perms.getD {n : Nat} {p : List Nat} (h : Perms n p) {i : Nat} (hi : i < n) : p.getD i 0 < n := by
  have : i < p.length := by rw [h.len]; exact hi
  rw [List.getD_eq_getElem?_getD, List.getElem?_eq_getElem this]
  exact h.lt (List.getElem_mem this)
theorem ext_get {α} {a b : List α} (h : a.length = b.length) (e : ∀ j, j < a.length → a[j]? = b[j]?) : a = b := by
  refine List.ext_getElem? fun j => ?_
  by_cases hj : j < a.length
  · exact e j hj
  · rw [List.getElem?_eq_none (by omega), List.getElem?_eq_none (by omega)]
/-- what stood there before does not matter -/
theorem setAll_indep {α} {n : Nat} {p : List Nat} (h : Perms n p) {l a b : List α} (hl : l.length = n) (ha : a.length = n) (hb : b.length = n) : setAll a p l = setAll b p l := by
  refine ext_get (by rw [setAll_len, setAll_len, ha, hb]) fun j hj => ?_
  rw [setAll_len, ha] at hj
  obtain ⟨i, hi, e⟩ := h.at hj
  rw [setAll_get p l a i j h.nodup (by rw [h.len, hl]) (fun k m => by rw [ha]; exact h.lt m) e, setAll_get p l b i j h.nodup (by rw [h.len, hl]) (fun k m => by rw [hb]; exact h.lt m) e]
/-- each where its place says -/
def placed {α} (l : List α) (p : List Nat) : List α := setAll l p l
/-- the way back -/
def back (p : List Nat) : List Nat := setAll (p.map fun _ => 0) p (List.range p.length)
theorem back_get {n : Nat} {p : List Nat} (h : Perms n p) {i j : Nat} (hi : i < n) (e : p[i]? = some j) : (back p)[j]? = some i := by
  unfold back
  rw [setAll_get p (List.range p.length) _ i j h.nodup (by simp) (fun k m => by rw [List.length_map, h.len]; exact h.lt m) e, List.getElem?_range (by rw [h.len]; exact hi)]
theorem back_len {p : List Nat} : (back p).length = p.length := by unfold back; rw [setAll_len]; simp
theorem back_back {n : Nat} {p : List Nat} (h : Perms n p) {i : Nat} (hi : i < n) : (back p).getD (p.getD i 0) 0 = i := by
  have hl : i < p.length := by rw [h.len]; exact hi
  have e : p[i]? = some p[i] := List.getElem?_eq_getElem hl
  have : p.getD i 0 = p[i] := by rw [List.getD_eq_getElem?_getD, e]; rfl
  rw [this, List.getD_eq_getElem?_getD, back_get h hi e]
  rfl
theorem back_perms {n : Nat} {p : List Nat} (h : Perms n p) : Perms n (back p) := by
  have hl : (back p).length = n := by rw [back_len, h.len]
  have nd : (back p).Nodup := by
    rw [List.nodup_iff_pairwise_ne, List.pairwise_iff_getElem]
    intro j k hj hk hjk e
    rw [hl] at hj hk
    obtain ⟨i, hi, ei⟩ := h.at hj
    obtain ⟨i', hi', ei'⟩ := h.at hk
    have a := back_get h hi ei
    have b := back_get h hi' ei'
    rw [List.getElem?_eq_getElem (by rw [hl]; exact hj)] at a
    rw [List.getElem?_eq_getElem (by rw [hl]; exact hk)] at b
    injection a with a
    injection b with b
    have : i = i' := by rw [← a, ← b]; exact e
    subst this
    rw [ei] at ei'
    injection ei' with ei'
    omega
  refine ⟨(List.perm_ext_iff_of_nodup nd List.nodup_range).mpr fun x => ?_⟩
  rw [List.mem_range]
  constructor
  · intro hx
    obtain ⟨j, hj⟩ := List.getElem?_of_mem hx
    have hjl := (List.getElem?_eq_some_iff.mp hj).1
    rw [hl] at hjl
    obtain ⟨i, hi, ei⟩ := h.at hjl
    rw [back_get h hi ei] at hj
    injection hj with hj
    omega
  · intro hx
    have hxl : x < p.length := by rw [h.len]; exact hx
    have e : p[x]? = some p[x] := List.getElem?_eq_getElem hxl
    exact List.mem_of_getElem? (back_get h hx e)
theorem placed_back {α} {n : Nat} {p : List Nat} (h : Perms n p) {l : List α} (hl : l.length = n) : placed (placed l p) (back p) = l := by
  have hb := back_perms h
  have hpl : (placed l p).length = n := by unfold placed; rw [setAll_len, hl]
  refine ext_get (by unfold placed; rw [setAll_len, setAll_len]) fun j hj => ?_
  have hj : j < n := by unfold placed at hj; rw [setAll_len, setAll_len, hl] at hj; exact hj
  have hjp : j < p.length := by rw [h.len]; exact hj
  have e : p[j]? = some p[j] := List.getElem?_eq_getElem hjp
  have hk : p[j] < n := h.lt (List.getElem_mem hjp)
  have eb := back_get h hj e
  show (setAll (placed l p) (back p) (placed l p))[j]? = _
  rw [setAll_get (back p) (placed l p) (placed l p) p[j] j hb.nodup (by rw [hb.len, hpl]) (fun k m => by rw [hpl]; exact hb.lt m) eb]
  exact setAll_get p l l j p[j] h.nodup (by rw [h.len, hl]) (fun k m => by rw [hl]; exact h.lt m) e
theorem ren_back {n m : Nat} {p t : List Nat} (h : Perms n p) (g : Perms m t) : ∀ {s : Sn}, s.okN n m → (s.ren p t).ren (back p) (back t) = s
  | .pl kd a b, ⟨k, ha, hb⟩ => by simp only [Sn.ren, back_back h ha, back_back h hb]
  | .vb q r v w a b, ⟨hq, hr, hv, hw, ha, hb⟩ => by simp only [Sn.ren, back_back h ha, back_back h hb, back_back g hv]
end Z

/-! D2: small worlds as values; what is so in them -/
namespace Z
open PySem Y
variable {k : Nat} {h : Hh}
theorem get_of {α} {l : List α} {n : Nat} {d : α} (hn : n < l.length) : l[n]? = some (l.getD n d) := by
  rw [List.getD_eq_getElem?_getD, List.getElem?_eq_getElem hn]; rfl
abbrev nT (p : List Nat) : PV := .tup (natsV p)
theorem nT_imm {p : List Nat} : imm (nT p) = true := by simp [natsV_imms]
theorem get_natsV {p : List Nat} {a : Nat} (ha : a < p.length) : (natsV p)[a]? = some (.int (p.getD a 0 : Nat)) := by
  rw [natsV_get, get_of (d := 0) ha]; rfl
section
variable {α : Type} {a b c d e f g : α}
@[simp] theorem cut_h3 : cut [a, b, c, d, e, f, g] none (some 3) = [a, b, c] := rfl
@[simp] theorem cut_h4 : cut [a, b, c, d, e, f, g] none (some 4) = [a, b, c, d] := rfl
@[simp] theorem cut_t4 : cut [a, b, c, d, e, f, g] (some 4) none = [e, f, g] := rfl
@[simp] theorem cut_l2 : cut [a, b, c, d, e, f, g] (some (-2)) none = [f, g] := rfl
@[simp] theorem cut_h5 : cut [a, b, c, d, e, f, g] none (some (-2)) = [a, b, c, d, e] := rfl
@[simp] theorem cut_l2' : cut [a, b, c] (some (-2)) none = [b, c] := rfl
@[simp] theorem cut_h1' : cut [a, b, c] none (some (-2)) = [a] := rfl
@[simp] theorem atI_72 : L2.atI [a, b, c, d, e, f, g] (-2) = some f := rfl
@[simp] theorem atI_71 : L2.atI [a, b, c, d, e, f, g] (-1) = some g := rfl
@[simp] theorem atI_32 : L2.atI [a, b, c] (-2) = some b := rfl
@[simp] theorem atI_31 : L2.atI [a, b, c] (-1) = some c := rfl
end
theorem any_nats {l : List Nat} {a : Nat} : ((natsV l).any fun z => eqv z (.int a)) = l.contains a := by
  induction l with
  | nil => rfl
  | cons x l ih =>
    have e : eqv (.int (x : Nat)) (.int a) = (a == x) := by
      show ((x : Int) == (a : Int)) = (a == x)
      rw [Bool.eq_iff_iff]
      simp
      omega
    rw [natsV, List.map_cons, List.any_cons, e, List.contains_cons]
    exact congrArg _ ih
theorem flat_nats {l : List Nat} : (natsV l).all flat = true := List.all_eq_true.mpr fun x m => by
  obtain ⟨i, _, rfl⟩ := List.mem_map.mp m
  rfl
theorem inn_tup {l : List PV} {x : PV} (hf : ((flat x && l.all flat) || (shp 20 x && l.all (shp 20))) = true) : cmpV h .inn x (.tup l) = some (l.any fun z => eqv z x) := by
  show (if ((flat x && l.all flat) || (shp 20 x && l.all (shp 20))) = true then some (l.any fun z => eqv z x) else none) = _
  rw [if_pos hf]
theorem inn_lst {l : List PV} {x : PV} (hf : ((flat x && l.all flat) || (shp 20 x && l.all (shp 20))) = true) : cmpV h .inn x (.lst l) = some (l.any fun z => eqv z x) := by
  show (if ((flat x && l.all flat) || (shp 20 x && l.all (shp 20))) = true then some (l.any fun z => eqv z x) else none) = _
  rw [if_pos hf]
@[simp] theorem inn_nats {l : List Nat} {a : Nat} : cmpV h .inn (.int a) (.tup (natsV l)) = some (l.contains a) := by
  rw [inn_tup (by rw [flat_nats]; rfl), any_nats]
@[simp] theorem inn_natsL {l : List Nat} {a : Nat} : cmpV h .inn (.int a) (.lst (natsV l)) = some (l.contains a) := by
  rw [inn_lst (by rw [flat_nats]; rfl), any_nats]
abbrev pr (p : Nat × Nat) : PV := .tup [.int p.1, .int p.2]
theorem any_prs {l : List (Nat × Nat)} {p : Nat × Nat} : ((l.map pr).any fun z => eqv z (pr p)) = l.contains p := by
  induction l with
  | nil => rfl
  | cons x l ih =>
    have e : eqv (pr x) (pr p) = (p == x) := by
      show (((x.1 : Int) == (p.1 : Int)) && (((x.2 : Int) == (p.2 : Int)) && true)) = (p == x)
      rw [Bool.eq_iff_iff]
      simp [Prod.ext_iff]
      omega
    rw [List.map_cons, List.any_cons, e, List.contains_cons]
    exact congrArg _ ih
theorem inn_prs {l : List (Nat × Nat)} {a b : Nat} : cmpV h .inn (.tup [.int a, .int b]) (.tup (l.map pr)) = some (l.contains (a, b)) := by
  have e : (l.map pr).all (shp 20) = true := List.all_eq_true.mpr fun x m => by
    obtain ⟨i, _, rfl⟩ := List.mem_map.mp m
    rfl
  rw [inn_tup (by rw [e]; rfl)]
  exact congrArg some (any_prs (p := (a, b)))
theorem any_bls {l : List Bool} {b : Bool} : ((l.map PV.bl).any fun z => eqv z (.bl b)) = l.contains b := by
  induction l with
  | nil => rfl
  | cons x l ih =>
    have e : eqv (.bl x) (.bl b) = (b == x) := by cases x <;> cases b <;> rfl
    rw [List.map_cons, List.any_cons, e, List.contains_cons]
    exact congrArg _ ih
theorem flat_bls {l : List Bool} : (l.map PV.bl).all flat = true := List.all_eq_true.mpr fun x m => by
  obtain ⟨i, _, rfl⟩ := List.mem_map.mp m
  rfl
theorem inn_bls {l : List Bool} {b : Bool} {i : Nat} (e : h[i]? = some (.lst (l.map .bl))) : cmpV h .inn (.bl b) (.ref i) = some (l.contains b) := by
  unfold cmpV
  simp only [dctOf_U, seqOf_U, e, Option.bind_some]
  show (if ((flat (.bl b) && (l.map PV.bl).all flat) || _) = true then some ((l.map PV.bl).any fun z => eqv z (.bl b)) else none) = _
  rw [flat_bls, if_pos (by rfl), any_bls]
theorem nin_bls {l : List Bool} {b : Bool} {i : Nat} (e : h[i]? = some (.lst (l.map .bl))) : cmpV h .nin (.bl b) (.ref i) = some (!l.contains b) := by
  rw [nin_U, e, Option.bind_some]
  show (if ((flat (.bl b) && (l.map PV.bl).all flat) || _) = true then some (!(l.map PV.bl).any fun z => eqv z (.bl b)) else none) = _
  rw [flat_bls, if_pos (by rfl), any_bls]
/-! small worlds -/
structure Wd where
  things : List (List Nat)
  ties : List (List (Nat × Nat))
def Wd.V (w : Wd) : PV := .tup [.tup (w.things.map fun l => nT l), .tup (w.ties.map fun l => .tup (l.map pr))]
def Wd.has (w : Wd) (a : Nat) : List Nat := (List.range w.things.length).filter fun i => (w.things.getD i []).contains a
def tie (w : Int) (row : List (Nat × Nat)) (i j : Nat) : Bool := row.contains (if w = 0 then (i, j) else (j, i))
def hold (r : Str) (w : Int) (row : List (Nat × Nat)) (B : List Nat) (i : Nat) : Bool := if r = "all" then decide (∀ j ∈ B, tie w row i j = true) else decide (∃ j, j ∈ B ∧ tie w row i j = true)
def Wd.so (d : Wd) : Sn → Bool
  | .pl kd a b => if kd = "all" then decide (∀ i ∈ d.has a, i ∈ d.has b) else if kd = "some" then decide (∃ i, i ∈ d.has a ∧ i ∈ d.has b) else (decide (d.has a = []) || decide (0 < (d.has b).length))
  | .vb q r v w a b => if q = "all" then decide (∀ i ∈ d.has a, hold r w (d.ties.getD v []) (d.has b) i = true) else decide (∃ i, i ∈ d.has a ∧ hold r w (d.ties.getD v []) (d.has b) i = true)
theorem flen {α} {p : α → Bool} {l : List α} : ((((l.filter p).length : Nat) : Int) == (l.length : Nat)) = decide (∀ x ∈ l, p x = true) := by
  rw [Bool.eq_iff_iff, beq_iff_eq, decide_eq_true_iff, Int.ofNat_inj, List.length_filter_eq_length_iff]
theorem flen0 {α} {p : α → Bool} {l : List α} : decide (0 < (l.filter p).length) = decide (∃ x, x ∈ l ∧ p x = true) := by
  rw [Bool.eq_iff_iff, decide_eq_true_iff, decide_eq_true_iff, List.length_pos_iff_exists_mem]
  simp
structure WdOk (n m : Nat) (w : Wd) : Prop where
  nt : w.things.length ≤ 100
  nv : w.ties.length = m
  lt : ∀ l ∈ w.things, ∀ x ∈ l, x < n
theorem Wd.imm (w : Wd) : imm w.V = true := by
  unfold Wd.V
  simp
  exact ⟨imms_map fun _ _ => by simp [natsV_imms], imms_map fun _ _ => by simp; exact imms_map fun _ _ => by simp⟩
theorem findIx_nats : ∀ {t : List Nat} {i v : Nat}, t.Nodup → t[i]? = some v → findIx (.int v) (natsV t) = some i
  | [], i, v, _, h => by simp at h
  | x :: t, 0, v, _, h => by
    simp at h
    subst h
    show (if eqv (.int (x : Nat)) (.int (x : Nat)) = true then some 0 else _) = _
    rw [if_pos (by simp [eqv])]
  | x :: t, i + 1, v, n, h => by
    rw [List.nodup_cons] at n
    have h' : t[i]? = some v := by simpa using h
    have hx : ¬ x = v := by rintro rfl; exact n.1 (List.mem_of_getElem? h')
    show (if eqv (.int (x : Nat)) (.int (v : Nat)) = true then some 0 else (findIx (.int v) (natsV t)).map (· + 1)) = _
    rw [if_neg (by simp [eqv]; omega), findIx_nats n.2 h']
    rfl
theorem index_nats {t : List Nat} {i v : Nat} (n : t.Nodup) (e : t[i]? = some v) : mIndex (.tup (natsV t)) [.int v] h = .ok (.int i) h := by
  show (if ((flat (.int v) && (natsV t).all flat) || _) = true then (match findIx (.int v) (natsV t) with | some j => R.ok (PV.int (j : Nat)) h | none => .err) else .err) = _
  rw [flat_nats, if_pos (by rfl), findIx_nats n e]
theorem intsOf_ints : ∀ (l : List Int), intsOf (l.map .int) = some l
  | [] => rfl
  | x :: l => by
    show (intsOf (l.map .int)).map (x :: ·) = _
    rw [intsOf_ints l]; rfl
/-- numbers sorted -/
def sortN (l : List Nat) : List Nat := (PySem.W.sortI (l.map fun a => ((a : Nat) : Int))).map Int.toNat
theorem sortN_mem {l : List Nat} {x : Nat} : x ∈ sortN l ↔ x ∈ l := by
  unfold sortN
  rw [List.mem_map]
  constructor
  · rintro ⟨y, hy, rfl⟩
    obtain ⟨a, ha, rfl⟩ := List.mem_map.mp ((PySem.W.sortI_perm _).mem_iff.mp hy)
    simpa using ha
  · intro ha
    exact ⟨(x : Int), (PySem.W.sortI_perm _).mem_iff.mpr (List.mem_map.mpr ⟨x, ha, rfl⟩), by simp⟩
theorem sortN_len {l : List Nat} : (sortN l).length = l.length := by
  unfold sortN
  rw [List.length_map, (PySem.W.sortI_perm _).length_eq, List.length_map]
theorem sorted_nats {l : List Nat} : bi1 h .sorted [.lst (natsV l)] = some (.lst (natsV (sortN l))) := by
  have e : natsV l = (l.map fun a => ((a : Nat) : Int)).map .int := by simp [natsV, Function.comp_def]
  show (match intsOf (natsV l) with | some is => some (PV.lst ((PySem.W.sortI is).map .int)) | none => (sortP (natsV l)).map .lst) = _
  rw [e, intsOf_ints]
  unfold natsV sortN
  simp only [Option.some.injEq, PV.lst.injEq]
  rw [List.map_map]
  refine List.map_congr_left fun x hx => ?_
  obtain ⟨a, ha, rfl⟩ := List.mem_map.mp ((PySem.W.sortI_perm _).mem_iff.mp hx)
  simp
theorem enumL_range {ι : Type} (A : ι → PV) (l : List ι) (d : ι) : enumL 0 (l.map A) = (List.range l.length).map fun i => .tup [.int (i : Nat), A (l.getD i d)] := by
  have key : ∀ (l : List ι) (j : Nat), enumL j (l.map A) = (List.range l.length).map fun i => .tup [.int ((j + i : Nat)), A (l.getD i d)] := by
    intro l
    induction l with
    | nil => intro j; rfl
    | cons x l ih =>
      intro j
      rw [List.map_cons, enumL, ih (j + 1), List.length_cons, List.range_succ_eq_map, List.map_cons, List.map_map]
      congr 1
      refine List.map_congr_left fun i _ => ?_
      simp only [Function.comp, Nat.succ_eq_add_one, List.getD_cons_succ]
      congr 3
      omega
  simpa using key l 0
theorem blsOf_bls : ∀ (l : List Bool), blsOf (l.map .bl) = some l
  | [] => rfl
  | x :: l => by
    show (blsOf (l.map .bl)).map (x :: ·) = _
    rw [blsOf_bls l]; rfl
theorem all_bls {l : List Bool} : bi1 h .all [.lst (l.map .bl)] = some (.bl (l.all id)) := by
  show ((some (l.map PV.bl)).bind blsOf).map (fun l => PV.bl (l.all id)) = _
  rw [Option.bind_some, blsOf_bls]; rfl
theorem any_blsB {l : List Bool} : bi1 h .any [.lst (l.map .bl)] = some (.bl (l.any id)) := by
  show ((some (l.map PV.bl)).bind blsOf).map (fun l => PV.bl (l.any id)) = _
  rw [Option.bind_some, blsOf_bls]; rfl
end Z

namespace Z
open PySem Y
def top (i : Nat) : Stmt := PySem.Challenge.pw_allfearsome_k01_words_lexicons.main.body.getD i (.Pass ⟨0, 0, 0, 0⟩)
/-- tuple_of -/
def b0 : List S := [
  .ret (.boo true [.isi (.var 0) .tuple, .cmp .eq (.bi .len [.var 0]) (.var 1)])]
def F0 : Fd := ⟨"tuple_of", "tuple_of", ["thing", "many"], ["thing", "many"], [], top 6, b0⟩
/-- check_word -/
def b1 : List S := [
  .ite (.boo false [.not (.val (.isi (.var 0) .str)), .not (.val (.chain .le .le (.int 1) (.bi .len [.var 0]) (.cst "WORD_MOST" (.int 10)))), .val (.cmp .inn (.var 0) (.cst "NO_WORDS" (.tup [(.str "all"), (.str "every"), (.str "each"), (.str "some"), (.str "a"), (.str "an"), (.str "no"), (.str "without"), (.str "are"), (.str "is"), (.str "by"), (.str "noun"), (.str "verb"), (.str "which"), (.str "ask"), (.str "why"), (.str "thing"), (.str "world"), (.str "showing"), (.str "book"), (.str "questions")])))]) [.rais 1 1 [.neg (.int 1)]] [],
  .for_ (.tp [1, 2]) (.etxt (.var 0)) [.ite (.val (.cmp .nin (.var 2) (.cst "LETTERS" (.str "abcdefghijklmnopqrstuvwxyz")))) [.rais 1 1 [.var 1]] []],
  .ret (.bi .len [.var 0])]
def F1 : Fd := ⟨"check_word", "check_word", ["thing", "at", "letter"], ["thing"], [], top 13, b1⟩
/-- is_word -/
def b2 : List S := [
  .tryX (.exp (.call false 1 [.var 0])) [⟨[(1, 1)], none, .one (.bl false), []⟩],
  .ret (.bl true)]
def F2 : Fd := ⟨"is_word", "is_word", ["thing"], ["thing"], [], top 14, b2⟩
/-- forms_wrong -/
def b3 : List S := [
  .ite (.boo false [.not (.val (.call false 0 [.var 0, .var 1])), .not (.val (.bi .all [.comp1 (.nm 3) (.seq (.var 0)) [] (.call false 2 [.var 3]) [3]]))]) [.ret (.bl true)] [],
  .ret (.boo false [.cmp .lt (.lset (.var 0)) (.var 1), .bi .any [.comp1 (.nm 3) (.seq (.var 0)) [] (.cmp .inn (.var 3) (.var 2)) [3]]])]
def F3 : Fd := ⟨"forms_wrong", "forms_wrong", ["forms", "many", "earlier", "form"], ["forms", "many", "earlier"], [], top 16, b3⟩
/-- check_parts -/
def b4 : List S := [
  .for_ (.tp [4, 5]) (.enum (.var 0)) [.ite (.val (.call false 3 [.var 5, .var 1, .var 3])) [.rais 0 2 [.var 4, .var 2]] [], .exp (.mt .extend (.var 3) [.var 5])]]
def F4 : Fd := ⟨"check_parts", "check_parts", ["things", "many", "word", "earlier", "at", "forms"], ["things", "many", "word", "earlier"], [], top 17, b4⟩
/-- check_lexicon -/
def b5 : List S := [
  .ite (.boo false [.not (.val (.call false 0 [.var 0, .int 2])), .not (.val (.bi .all [.comp1 (.nm 4) (.seq (.var 0)) [] (.isi (.var 4) .tuple) [4]]))]) [.rais 0 2 [.neg (.int 1), .str "shape"]] [],
  .asg (.tp [2, 3]) (.var 0),
  .ite (.not (.val (.chain .le .le (.int 1) (.bi .len [.var 2]) (.cst "NOUNS_MOST" (.int 5))))) [.rais 0 2 [.neg (.int 1), .str "nouns"]] [],
  .ite (.val (.cmp .gt (.bi .len [.var 3]) (.cst "VERBS_MOST" (.int 2)))) [.rais 0 2 [.neg (.int 1), .str "verbs"]] [],
  .asg (.nm 1) (.box (.lst [])),
  .exp (.call true 4 [.var 2, .int 2, .str "nouns", .var 1]),
  .exp (.call true 4 [.var 3, .int 3, .str "verbs", .var 1]),
  .ret (.tup [.bi .len [.var 2], .bi .len [.var 3]])]
def F5 : Fd := ⟨"check_lexicon", "check_lexicon", ["thing", "earlier", "nouns", "verbs", "part"], ["thing"], [], top 18, b5⟩
/-- forms_of -/
def b6 : List S := [
  .asg (.nm 1) (.box (.lst [])),
  .for_ (.nm 2) (.seq (.var 0)) [.for_ (.nm 3) (.seq (.var 2)) [.exp (.mt .extend (.var 1) [.var 3])]],
  .ret (.bi .tuple [.var 1])]
def F6 : Fd := ⟨"forms_of", "forms_of", ["lexicon", "found", "part", "forms"], ["lexicon"], [(["lexicon"], [0])], top 19, b6⟩
/-- _law_jar -/
def b7 : List S := [
  .asg (.nm 1) (.box (.lst [.int 10111, .box (.lst []), .box (.dct [])])),
  .for_ (.nm 2) (.seq (.sl (.var 0) none (some (.int 47)))) [.asg (.nm 3) (.bin .mod (.bi .abs [.bi .int [.var 2]]) (.bin .shl (.int 1) (.int 1480))), .sub (.var 1) (.int 0) (.bin .mod (.bi .int [.bin .add (.bin .add (.bin .add (.bin .mul (.ix (.var 1) (.int 0)) (.int 99817)) (.bin .mul (.bin .mod (.var 3) (.int 999389)) (.int 73))) (.bi .int [.cmp .lt (.bi .int [.var 2]) (.int 0)])) (.int 151)]) (.int 2147478899)), .ite (.val (.cmp .ge (.var 3) (.bin .pow (.int 10) (.int 18)))) [.exp (.mt .insert (.ix (.var 1) (.int 1)) [.int 0, .var 3])] []],
  .ret (.var 1)]
def F7 : Fd := ⟨"_law_jar", "_law_jar", ["script", "jar", "cell", "size"], ["script"], [], top 21, b7⟩
/-- _law_bean -/
def b8 : List S := [
  .ite (.val (.cmp .gt (.bi .len [.ix (.var 0) (.int 1)]) (.int 0))) [.asg (.nm 2) (.mt .pop0 (.ix (.var 0) (.int 1)) []), .ite (.boo true [.val (.cmp .ge (.var 2) (.var 1)), .val (.cmp .gt (.var 1) (.int 1))]) [.exp (.mt .append (.ix (.var 0) (.int 1)) [.bin .fdiv (.var 2) (.var 1)])] [], .ret (.bin .mod (.bi .int [.var 2]) (.var 1))] [],
  .sub (.var 0) (.int 0) (.bin .mod (.bi .int [.bin .add (.bin .mul (.ix (.var 0) (.int 0)) (.int 89597)) (.int 643)]) (.int 2147478899)),
  .ret (.bin .mod (.bi .int [.bin .fdiv (.ix (.var 0) (.int 0)) (.int 821)]) (.var 1))]
def F8 : Fd := ⟨"_law_bean", "_law_bean", ["jar", "many", "size"], ["jar", "many"], [], top 22, b8⟩
/-- _law_spoon -/
def b9 : List S := [
  .ite (.val (.cmp .nin (.var 1) (.ix (.var 0) (.int 2)))) [.sub (.ix (.var 0) (.int 2)) (.var 1) (.tup [.call true 8 [.var 0, .int 11], .call true 8 [.var 0, .int 929]])] [],
  .asg (.tp [4, 5]) (.ix (.ix (.var 0) (.int 2)) (.var 1)),
  .asg (.nm 3) (.call true 8 [.var 0, .var 2]),
  .ret (.ite (.val (.cmp .lt (.var 4) (.int 2))) (.bin .mul (.var 4) (.bin .sub (.var 2) (.int 1))) (.ite (.val (.cmp .eq (.var 4) (.int 2))) (.bin .mod (.bi .int [.var 5]) (.var 2)) (.var 3)))]
def F9 : Fd := ⟨"_law_spoon", "_law_spoon", ["jar", "place", "many", "free", "kind", "value"], ["jar", "place", "many"], [], top 23, b9⟩
/-- _law_same -/
def b10 : List S := [
  .asg (.nm 2) (.box (.lst [.tup [.var 0, .var 1]])),
  .whl (.val (.cmp .gt (.bi .len [.var 2]) (.int 0))) [.asg (.tp [3, 4]) (.mt .pop0 (.var 2) []), .ite (.val (.isi (.var 4) .tuple)) [.ite (.boo false [.not (.val (.isi (.var 3) .tuple)), .val (.cmp .ne (.bi .len [.var 3]) (.bi .len [.var 4]))]) [.ret (.bl false)] [], .exp (.mt .extend (.var 2) [.comp1 (.nm 5) (.rng1 (.bi .len [.var 4])) [] (.tup [.ix (.var 3) (.var 5), .ix (.var 4) (.var 5)]) [5]])] [.ite (.val (.cmp .isn (.var 4) (.non))) [.ite (.val (.cmp .notn (.var 3) (.non))) [.ret (.bl false)] []] [.ite (.val (.isi (.var 4) .bool)) [.ite (.boo false [.not (.val (.isi (.var 3) .bool)), .val (.cmp .ne (.var 3) (.var 4))]) [.ret (.bl false)] []] [.ite (.val (.isi (.var 4) .str)) [.ite (.boo false [.not (.val (.isi (.var 3) .str)), .val (.cmp .ne (.var 3) (.var 4))]) [.ret (.bl false)] []] [.ite (.boo false [.not (.val (.isi (.var 3) .int)), .val (.isi (.var 3) .bool), .val (.cmp .ne (.var 3) (.var 4))]) [.ret (.bl false)] []]]]]],
  .ret (.bl true)]
def F10 : Fd := ⟨"_law_same", "_law_same", ["told", "due", "todo", "one", "other", "at"], ["told", "due"], [], top 24, b10⟩
/-- _law_none -/
def b11 : List S := [
  .ret (.tup [.str "all", .str "every", .str "each", .str "some", .str "a", .str "an", .str "no", .str "without", .str "are", .str "is", .str "by", .str "noun", .str "verb", .str "which", .str "ask", .str "why", .str "thing", .str "world", .str "showing", .str "book", .str "questions"])]
def F11 : Fd := ⟨"_law_none", "_law_none", [], [], [], top 25, b11⟩
/-- _law_wrong -/
def b12 : List S := [
  .ite (.boo false [.not (.val (.isi (.var 0) .str)), .val (.cmp .eq (.var 0) (.str "")), .val (.cmp .gt (.bi .len [.var 0]) (.int 10)), .val (.cmp .inn (.var 0) (.call false 11 []))]) [.ret (.neg (.int 1))] [],
  .for_ (.nm 1) (.rng1 (.bi .len [.var 0])) [.ite (.not (.val (.chain .le .le (.str "a") (.ix (.var 0) (.var 1)) (.str "z")))) [.ret (.var 1)] []],
  .ret (.non)]
def F12 : Fd := ⟨"_law_wrong", "_law_wrong", ["thing", "at"], ["thing"], [], top 26, b12⟩
/-- _law_heard -/
def b13 : List S := [
  .tryX (.ret (.tup [.str "told", .ite (.val (.cmp .eq (.var 0) (.str "word"))) (.call false 1 [.var 1]) (.call false 5 [.var 1])])) [⟨[(1, 1)], some 2, .tup [.cst (.str "word"), .fld 0], []⟩, ⟨[(0, 2)], some 2, .tup [.cst (.str "lexicon"), .fld 0, .fld 1], []⟩, ⟨[(0, 2), (1, 1)], none, .tup [.cst (.str "other")], []⟩]]
def F13 : Fd := ⟨"_law_heard", "_law_heard", ["call", "thing", "error"], ["call", "thing"], [], top 27, b13⟩
/-- _law_word -/
def b14 : List S := [
  .asg (.nm 2) (.ix (.tup [.int 1, .int 2, .int 3, .int 4, .int 5, .int 8, .int 9, .int 10]) (.call true 9 [.var 0, .int 1, .int 8])),
  .asg (.nm 3) (.bin .add (.var 1) (.mt .join (.str "") [.comp1 (.nm 4) (.rng1 (.bin .sub (.var 2) (.int 1))) [] (.ix (.str "aeiouzbstnrlm") (.call true 8 [.var 0, .int 13])) [4]])),
  .ret (.ite (.val (.cmp .inn (.var 3) (.call false 11 []))) (.bin .add (.var 3) (.str "q")) (.var 3))]
def F14 : Fd := ⟨"_law_word", "_law_word", ["jar", "first", "size", "word", "lap"], ["jar", "first"], [], top 28, b14⟩
/-- _law_fault -/
def b15 : List S := [
  .ite (.boo false [.not (.val (.isi (.var 0) .tuple)), .val (.cmp .ne (.bi .len [.var 0]) (.int 2)), .not (.val (.isi (.ix (.var 0) (.int 0)) .tuple)), .not (.val (.isi (.ix (.var 0) (.int 1)) .tuple))]) [.ret (.tup [.neg (.int 1), .str "shape"])] [],
  .ite (.not (.val (.chain .le .le (.int 1) (.bi .len [.ix (.var 0) (.int 0)]) (.int 5)))) [.ret (.tup [.neg (.int 1), .str "nouns"])] [],
  .ite (.val (.cmp .gt (.bi .len [.ix (.var 0) (.int 1)]) (.int 2))) [.ret (.tup [.neg (.int 1), .str "verbs"])] [],
  .asg (.nm 1) (.box (.lst [])),
  .for_ (.tp [2, 3, 4]) (.seq (.tup [.tup [.int 0, .int 2, .str "nouns"], .tup [.int 1, .int 3, .str "verbs"]])) [.for_ (.nm 5) (.rng1 (.bi .len [.ix (.var 0) (.var 2)])) [.asg (.nm 6) (.ix (.ix (.var 0) (.var 2)) (.var 5)), .ite (.boo false [.not (.val (.isi (.var 6) .tuple)), .val (.cmp .ne (.bi .len [.var 6]) (.var 3))]) [.ret (.tup [.var 5, .var 4])] [], .for_ (.nm 7) (.seq (.var 6)) [.ite (.boo false [.val (.cmp .notn (.call false 12 [.var 7]) (.non)), .val (.cmp .inn (.var 7) (.var 1))]) [.ret (.tup [.var 5, .var 4])] [], .exp (.mt .append (.var 1) [.var 7])]]],
  .ret (.non)]
def F15 : Fd := ⟨"_law_fault", "_law_fault", ["thing", "known", "kind", "size", "word", "at", "forms", "form"], ["thing"], [], top 29, b15⟩
/-- _law_lexicon -/
def b16 : List S := [
  .asg (.nm 3) (.box (.bi .lists [.str "abcdefghijklmnopqrstuvwxyz"])),
  .asg (.nm 4) (.box (.lst [])),
  .for_ (.nm 5) (.rng1 (.bin .add (.var 1) (.var 2))) [.asg (.nm 6) (.mt .pop1 (.var 3) [.call true 8 [.var 0, .bi .len [.var 3]]]), .asg (.nm 7) (.call true 14 [.var 0, .var 6]), .asg (.nm 8) (.ite (.val (.cmp .lt (.bi .len [.var 7]) (.int 9))) (.tup [.str "s", .str "ed"]) (.tup [.str "", .str ""])), .ite (.boo true [.val (.cmp .ne (.ix (.var 8) (.int 0)) (.str "")), .val (.cmp .gt (.call true 8 [.var 0, .int 3]) (.int 0)), .val (.cmp .nin (.bin .add (.var 7) (.str "s")) (.call false 11 [])), .val (.cmp .nin (.bin .add (.var 7) (.str "ed")) (.call false 11 []))]) [.asg (.nm 9) (.tup [.var 7, .bin .add (.var 7) (.str "s"), .bin .add (.var 7) (.str "ed")])] [.asg (.nm 9) (.tup [.bin .add (.var 6) (.str "vy"), .ite (.val (.cmp .gt (.bi .len [.var 7]) (.int 2))) (.var 7) (.bin .add (.var 6) (.str "zz")), .bin .add (.var 6) (.str "wort")])], .asg (.nm 9) (.ite (.val (.cmp .lt (.var 5) (.var 1))) (.sl (.var 9) none (some (.int 2))) (.tup [.ix (.var 9) (.int 2), .ix (.var 9) (.int 0), .ix (.var 9) (.int 1)])), .exp (.mt .append (.var 4) [.var 9])],
  .ret (.tup [.bi .tuple [.sl (.var 4) none (some (.var 1))], .bi .tuple [.sl (.var 4) (some (.var 1)) none]])]
def F16 : Fd := ⟨"_law_lexicon", "_law_lexicon", ["jar", "nouns", "verbs", "letters", "told", "lap", "first", "base", "ends", "forms"], ["jar", "nouns", "verbs"], [], top 30, b16⟩
/-- _law_bent -/
def b17 : List S := [
  .asg (.tp [5, 6]) (.var 1),
  .par [7, 8] [.call true 8 [.var 0, .int 9], .call true 8 [.var 0, .bi .len [.var 5]]],
  .asg (.nm 2) (.ix (.var 5) (.var 8)),
  .asg (.nm 3) (.ix (.tup [.str "", .str "Cat", .str "two words", .str "a2", .str "elevenlette", .str "abcdefghijk", .non, .int 3, .bl true, .tup [.str "x"], .lst [.str "xy"], .str "all", .str "questions", .str "an", .str "-"]) (.call true 8 [.var 0, .int 15])),
  .asg (.nm 4) (.ix (.ix (.var 5) (.call true 8 [.var 0, .bi .len [.var 5]])) (.call true 8 [.var 0, .int 2])),
  .ite (.val (.cmp .eq (.var 7) (.int 0))) [.asg (.nm 9) (.ite (.val (.cmp .eq (.call true 8 [.var 0, .int 2]) (.int 0))) (.tup [.ix (.var 2) (.int 0), .var 3]) (.tup [.var 3, .ix (.var 2) (.int 1)]))] [.ite (.val (.cmp .eq (.var 7) (.int 1))) [.asg (.nm 9) (.ix (.tup [.bi .list [.var 2], .sl (.var 2) none (some (.int 1)), .bin .add (.var 2) (.tup [.str "extra"]), .tup [], .non, .ix (.var 2) (.int 0), .tup [.var 2]]) (.call true 8 [.var 0, .int 7]))] [.ite (.val (.cmp .eq (.var 7) (.int 2))) [.asg (.nm 9) (.ite (.val (.cmp .eq (.call true 8 [.var 0, .int 2]) (.int 0))) (.tup [.ix (.var 2) (.int 0), .ix (.var 2) (.int 0)]) (.ite (.val (.cmp .eq (.call true 8 [.var 0, .int 2]) (.int 0))) (.tup [.var 4, .ix (.var 2) (.int 1)]) (.tup [.ix (.var 2) (.int 0), .var 4])))] [.ite (.boo true [.val (.cmp .lt (.var 7) (.int 6)), .val (.cmp .gt (.bi .len [.var 6]) (.int 0))]) [.asg (.nm 10) (.call true 8 [.var 0, .bi .len [.var 6]]), .asg (.nm 11) (.ix (.var 6) (.var 10)), .asg (.nm 12) (.call true 8 [.var 0, .int 3]), .asg (.nm 13) (.ix (.tup [.var 3, .var 4, .ix (.ix (.var 6) (.call true 8 [.var 0, .bi .len [.var 6]])) (.call true 8 [.var 0, .int 3]), .ix (.var 11) (.bin .mod (.bi .int [.bin .add (.var 12) (.int 1)]) (.int 3))]) (.call true 8 [.var 0, .int 4])), .asg (.nm 14) (.ite (.val (.cmp .eq (.var 7) (.int 3))) (.ix (.tup [.bin .add (.bin .add (.sl (.var 11) none (some (.var 12))) (.tup [.var 13])) (.sl (.var 11) (some (.bin .add (.var 12) (.int 1))) none), .sl (.var 11) none (some (.int 2)), .bi .list [.var 11], .bin .add (.var 11) (.tup [.str "more"]), .non]) (.call true 8 [.var 0, .int 5])) (.bin .add (.bin .add (.sl (.var 11) none (some (.var 12))) (.tup [.var 13])) (.sl (.var 11) (some (.bin .add (.var 12) (.int 1))) none))), .ret (.tup [.var 5, .bin .add (.bin .add (.sl (.var 6) none (some (.var 10))) (.tup [.var 14])) (.sl (.var 6) (some (.bin .add (.var 10) (.int 1))) none)])] [.ite (.val (.cmp .eq (.var 7) (.int 6))) [.ret (.ix (.tup [.lst [.var 5, .var 6], .tup [.var 5], .tup [.var 5, .var 6, .tup []], .tup [.bi .list [.var 5], .var 6], .tup [.var 5, .bi .list [.var 6]], .non, .str "lexicon", .tup [.var 5, .non]]) (.call true 8 [.var 0, .int 8]))] [.ite (.val (.cmp .eq (.var 7) (.int 7))) [.ret (.ix (.tup [.tup [.tup [], .var 6], .tup [.var 5, .bin .add (.var 6) (.tup [.tup [.str "qa", .str "qb", .str "qc"], .tup [.str "qd", .str "qe", .str "qf"], .tup [.str "qg", .str "qh", .str "qi"]])], .tup [.bin .add (.var 5) (.bin .mul (.tup [.tup [.str "qj", .str "qk"]]) (.int 5)), .var 6], .tup [.tup [], .bin .mul (.var 6) (.int 3)]]) (.call true 8 [.var 0, .int 4]))] [.ret (.tup [.var 6, .var 5])]]]]]],
  .ret (.tup [.bin .add (.bin .add (.sl (.var 5) none (some (.var 8))) (.tup [.var 9])) (.sl (.var 5) (some (.bin .add (.var 8) (.int 1))) none), .var 6])]
def F17 : Fd := ⟨"_law_bent", "_law_bent", ["jar", "lexicon", "forms", "odd", "other", "nouns", "verbs", "way", "at", "fresh", "which", "three", "spot", "more", "some"], ["jar", "lexicon"], [], top 31, b17⟩
/-- _law_words_asked -/
def b18 : List S := [
  .asg (.nm 1) (.call true 14 [.var 0, .ix (.str "abcdefghijklmnopqrstuvwxyz") (.call true 8 [.var 0, .int 26])]),
  .asg (.nm 2) (.call true 8 [.var 0, .bi .len [.var 1]]),
  .asg (.nm 3) (.ix (.str "A0 _Z{`9-.") (.call true 8 [.var 0, .int 10])),
  .asg (.nm 4) (.ix (.call false 11 []) (.call true 8 [.var 0, .int 21])),
  .asg (.nm 5) (.lst [.var 1, .bin .add (.bin .add (.sl (.var 1) none (some (.var 2))) (.var 3)) (.sl (.var 1) (some (.var 2)) none), .bin .add (.bin .add (.sl (.var 1) none (some (.var 2))) (.var 3)) (.sl (.var 1) (some (.bin .add (.var 2) (.int 1))) none), .sl (.bin .add (.var 1) (.str "abcdefghij")) none (some (.int 10))]),
  .asg (.nm 5) (.bin .add (.var 5) (.lst [.sl (.bin .add (.var 1) (.str "abcdefghij")) none (some (.int 11)), .var 4, .bin .add (.var 4) (.str "x"), .bin .add (.bin .add (.sl (.var 4) none (some (.int 1))) (.str "x")) (.sl (.var 4) (some (.int 1)) none), .bin .add (.var 4) (.str " "), .bin .add (.str "A") (.sl (.var 4) (some (.int 1)) none)])),
  .asg (.nm 5) (.bin .add (.var 5) (.lst [.bin .add (.bin .add (.var 3) (.var 1)) (.var 3), .bin .add (.str "Q") (.sl (.var 1) (some (.int 1)) none), .sl (.bin .add (.bin .add (.var 3) (.var 1)) (.str "abcdefghijk")) none (some (.int 11)), .lst [.var 1], .tup [.var 1], .str "", .non, .int 7, .int 0, .bl true, .bl false, .tup [], .str "a"])),
  .for_ (.nm 6) (.seq (.var 5)) [.asg (.nm 7) (.call false 12 [.var 6]), .ite (.not (.val (.call false 10 [.call false 13 [.str "word", .var 6], .ite (.val (.cmp .isn (.var 7) (.non))) (.tup [.str "told", .bi .len [.var 6]]) (.tup [.str "word", .var 7])]))) [.ret (.bl false)] []],
  .ret (.bl true)]
def F18 : Fd := ⟨"_law_words_asked", "_law_words_asked", ["jar", "word", "at", "odd", "none", "things", "thing", "wrong"], ["jar"], [], top 32, b18⟩
/-- _law_lexicons_asked -/
def b19 : List S := [
  .asg (.nm 1) (.call true 16 [.var 0, .bin .add (.int 1) (.call true 9 [.var 0, .int 2, .int 5]), .call true 9 [.var 0, .int 3, .int 3]]),
  .asg (.nm 2) (.lst []),
  .for_ (.nm 3) (.seq (.var 1)) [.for_ (.nm 6) (.seq (.var 3)) [.asg (.nm 2) (.bin .add (.var 2) (.bi .list [.var 6]))]],
  .asg (.nm 4) (.tup [.call false 13 [.str "lexicon", .var 1], .call false 6 [.var 1]]),
  .ite (.not (.val (.call false 10 [.var 4, .tup [.tup [.str "told", .tup [.bi .len [.ix (.var 1) (.int 0)], .bi .len [.ix (.var 1) (.int 1)]]], .bi .tuple [.var 2]]]))) [.ret (.bl false)] [],
  .for_ (.nm 5) (.rng1 (.int 7)) [.asg (.nm 7) (.call true 17 [.var 0, .var 1]), .ite (.boo true [.val (.cmp .eq (.call true 8 [.var 0, .int 3]) (.int 0)), .val (.cmp .notn (.call false 15 [.var 7]) (.non)), .val (.isi (.var 7) .tuple), .val (.cmp .eq (.bi .len [.var 7]) (.int 2)), .val (.isi (.ix (.var 7) (.int 0)) .tuple), .val (.cmp .gt (.bi .len [.ix (.var 7) (.int 0)]) (.int 0))]) [.asg (.nm 7) (.ite (.val (.cmp .eq (.call true 8 [.var 0, .int 2]) (.int 0))) (.tup [.ix (.var 7) (.int 0), .tup [.tup [.str "qq", .str "qq", .str "qz"]]]) (.tup [.bin .add (.tup [.tup [.str "qq", .str "qq"]]) (.sl (.ix (.var 7) (.int 0)) (some (.int 1)) none), .ix (.var 7) (.int 1)]))] [], .asg (.nm 8) (.call false 15 [.var 7]), .asg (.nm 9) (.ite (.val (.cmp .isn (.var 8) (.non))) (.tup [.str "told", .tup [.bi .len [.ix (.var 7) (.int 0)], .bi .len [.ix (.var 7) (.int 1)]]]) (.bin .add (.tup [.str "lexicon"]) (.var 8))), .ite (.not (.val (.call false 10 [.call false 13 [.str "lexicon", .var 7], .var 9]))) [.ret (.bl false)] []],
  .ret (.bl true)]
def F19 : Fd := ⟨"_law_lexicons_asked", "_law_lexicons_asked", ["jar", "lexicon", "forms", "lot", "told", "lap", "one", "thing", "fault", "due"], ["jar"], [], top 33, b19⟩
/-- _law_hand -/
def b20 : List S := [
  .asg (.nm 1) (.lst [.tup [.str "cat", .tup [.str "told", .int 3]], .tup [.str "cat2", .tup [.str "word", .int 3]], .tup [.str "abcdefghij", .tup [.str "told", .int 10]], .tup [.str "abcdefghijk", .tup [.str "word", .neg (.int 1)]], .tup [.str "2bcdefghijk", .tup [.str "word", .neg (.int 1)]]]),
  .asg (.nm 1) (.bin .add (.var 1) (.lst [.tup [.str "questions", .tup [.str "word", .neg (.int 1)]], .tup [.str "question", .tup [.str "told", .int 8]], .tup [.str "All", .tup [.str "word", .int 0]], .tup [.str "a b", .tup [.str "word", .int 1]], .tup [.bl true, .tup [.str "word", .neg (.int 1)]]])),
  .for_ (.tp [2, 7]) (.seq (.var 1)) [.ite (.not (.val (.call false 10 [.call false 13 [.str "word", .var 2], .var 7]))) [.ret (.bl false)] []],
  .for_ (.nm 2) (.seq (.call false 11 [])) [.ite (.not (.val (.call false 10 [.call false 13 [.str "word", .var 2], .tup [.str "word", .neg (.int 1)]]))) [.ret (.bl false)] []],
  .asg (.tp [8, 9]) (.tup [.tup [.str "cat", .str "cats"], .tup [.str "fear", .str "fears", .str "feared"]]),
  .asg (.nm 3) (.bi .tuple [.comp1 (.nm 10) (.rng1 (.int 5)) [] (.tup [.bin .add (.str "n") (.ix (.str "abcdef") (.var 10)), .bin .add (.str "p") (.ix (.str "abcdef") (.var 10))]) [10]]),
  .asg (.nm 4) (.tup [.var 9, .tup [.str "see", .str "sees", .str "seen"]]),
  .asg (.nm 5) (.lst [.tup [.tup [.tup [.var 8], .tup []], .tup [.str "told", .tup [.int 1, .int 0]]], .tup [.tup [.var 3, .var 4], .tup [.str "told", .tup [.int 5, .int 2]]], .tup [.tup [.bin .add (.var 3) (.tup [.var 8]), .var 4], .tup [.str "lexicon", .neg (.int 1), .str "nouns"]], .tup [.tup [.var 3, .bin .add (.var 4) (.tup [.tup [.str "eat", .str "eats", .str "eaten"]])], .tup [.str "lexicon", .neg (.int 1), .str "verbs"]]]),
  .asg (.nm 5) (.bin .add (.var 5) (.lst [.tup [.tup [.tup [], .tup []], .tup [.str "lexicon", .neg (.int 1), .str "nouns"]], .tup [.tup [.bin .add (.var 3) (.tup [.var 8]), .bin .mul (.var 4) (.int 2)], .tup [.str "lexicon", .neg (.int 1), .str "nouns"]], .tup [.tup [.lst [.var 8], .tup []], .tup [.str "lexicon", .neg (.int 1), .str "shape"]]])),
  .asg (.nm 5) (.bin .add (.var 5) (.lst [.tup [.tup [.tup [.var 8]], .tup [.str "lexicon", .neg (.int 1), .str "shape"]], .tup [.tup [.tup [.var 8, .tup [.str "cat", .str "dogs"]], .tup []], .tup [.str "lexicon", .int 1, .str "nouns"]]])),
  .asg (.nm 5) (.bin .add (.var 5) (.lst [.tup [.tup [.tup [.var 8, .tup [.str "dog", .str "cats"]], .tup [.tup []]], .tup [.str "lexicon", .int 1, .str "nouns"]], .tup [.tup [.tup [.tup [.str "deer", .str "deer"]], .tup []], .tup [.str "lexicon", .int 0, .str "nouns"]]])),
  .asg (.nm 5) (.bin .add (.var 5) (.lst [.tup [.tup [.tup [.var 8], .tup [.tup [.str "fear", .str "fears", .str "cats"]]], .tup [.str "lexicon", .int 0, .str "verbs"]], .tup [.tup [.tup [.var 8], .tup [.var 9, .tup [.str "see", .str "fears", .str "seen"]]], .tup [.str "lexicon", .int 1, .str "verbs"]]])),
  .asg (.nm 5) (.bin .add (.var 5) (.lst [.tup [.tup [.tup [.var 8], .tup [.var 9, .tup [.str "see", .str "sees", .str "feared"]]], .tup [.str "lexicon", .int 1, .str "verbs"]]])),
  .asg (.nm 5) (.bin .add (.var 5) (.lst [.tup [.tup [.tup [.var 8], .tup [.tup [.str "put", .str "puts", .str "put"]]], .tup [.str "lexicon", .int 0, .str "verbs"]], .tup [.tup [.tup [.var 8, .var 8], .tup [.non]], .tup [.str "lexicon", .int 1, .str "nouns"]]])),
  .asg (.nm 5) (.bin .add (.var 5) (.lst [.tup [.tup [.tup [.var 8, .var 8], .bin .add (.var 4) (.tup [.tup [.str "eat", .str "eats", .str "eaten"]])], .tup [.str "lexicon", .neg (.int 1), .str "verbs"]]])),
  .asg (.nm 5) (.bin .add (.var 5) (.lst [.tup [.tup [.tup [.var 8, .tup [.str "thing", .str "things"]], .tup []], .tup [.str "lexicon", .int 1, .str "nouns"]], .tup [.tup [.tup [.var 8, .tup [.str "dog", .str "abcdefghijk"]], .tup []], .tup [.str "lexicon", .int 1, .str "nouns"]]])),
  .asg (.nm 6) (.call true 8 [.var 0, .bi .len [.var 5]]),
  .for_ (.tp [2, 7]) (.seq (.bin .add (.sl (.var 5) (some (.var 6)) none) (.sl (.var 5) none (some (.var 6))))) [.ite (.not (.val (.call false 10 [.call false 13 [.str "lexicon", .var 2], .var 7]))) [.ret (.bl false)] []],
  .asg (.nm 7) (.tup [.str "na", .str "pa", .str "nb", .str "pb", .str "nc", .str "pc", .str "nd", .str "pd", .str "ne", .str "pe", .str "fear", .str "fears", .str "feared", .str "see", .str "sees", .str "seen"]),
  .ret (.call false 10 [.tup [.callk false 6 [0] [.tup [.var 3, .var 4]], .call false 6 [.tup [.tup [.var 8], .tup []]]], .tup [.var 7, .var 8]])]
def F20 : Fd := ⟨"_law_hand", "_law_hand", ["jar", "words", "thing", "five", "two", "rows", "at", "due", "one", "fear", "k"], ["jar"], [], top 34, b20⟩
/-- law -/
def b21 : List S := [
  .asg (.nm 1) (.call true 7 [.var 0]),
  .ite (.not (.val (.call true 20 [.var 1]))) [.ret (.bl false)] [],
  .for_ (.nm 2) (.rng1 (.int 2)) [.ite (.boo false [.not (.val (.call true 18 [.var 1])), .not (.val (.call true 19 [.var 1]))]) [.ret (.bl false)] []],
  .ret (.bl true)]
def F21 : Fd := ⟨"law", "law", ["script", "jar", "lap"], ["script"], [], top 35, b21⟩
def fs : List Fd := [F0, F1, F2, F3, F4, F5, F6, F7, F8, F9, F10, F11, F12, F13, F14, F15, F16, F17, F18, F19, F20, F21]
def bl : List Str := ["abs", "all", "any", "bool", "enumerate", "int", "isinstance", "len", "list", "range", "set", "str", "tuple"]
def cs : CsT := ⟨[("LETTERS", (.str "abcdefghijklmnopqrstuvwxyz")), ("NOUNS_MOST", (.int 5)), ("NO_WORDS", (.tup [(.str "all"), (.str "every"), (.str "each"), (.str "some"), (.str "a"), (.str "an"), (.str "no"), (.str "without"), (.str "are"), (.str "is"), (.str "by"), (.str "noun"), (.str "verb"), (.str "which"), (.str "ask"), (.str "why"), (.str "thing"), (.str "world"), (.str "showing"), (.str "book"), (.str "questions")])), ("VERBS_MOST", (.int 2)), ("WORD_MOST", (.int 10))], [⟨"BadLexicon", ["at", "word"]⟩, ⟨"BadWord", ["at"]⟩], [("BadLexicon", [(0, 2)]), ("BadWord", [(1, 1)]), ("FearError", [(0, 2), (1, 1)])], []⟩
end Z

namespace Z
open PySem Y
abbrev P := progD fs
abbrev rn := Y.run P
variable {k : Nat} {h : Hh}
/-! a call that may raise -/
theorem Wx_callP {cf : CF} {f : Nat} {args : List PV} {Xc : Nat → List PV → Prop} {Φ : PV → Hh → Prop} (hi : imms args = true) (hx : ∀ c fs, Xc c fs → dats fs = true) (p : WpX Xc (cf f args) [] fun v _ => imm v = true ∧ Φ v h) : WpX Xc (callM cf false f args) h Φ := by
  rcases Wx_or p with ⟨v, h1, e, q1, q2⟩ | ⟨c, fs, h1, e, q⟩
  · exact Wp_of (callP_imm' hi e q1) q2
  · refine Wx_of (c := c) (fs := fs) (h' := h) ?_ q
    show callP cf f args h = _
    unfold callP
    rw [frzs_imm hi]
    simp only
    rw [e]
    simp only
    rw [if_pos (hx c fs q)]
mutual
/-- ints, short texts, truth values, none, tuples and lists of them -/
def ldat : PV → Bool
  | .non => true
  | .bl _ => true
  | .int _ => true
  | .str z => decide (z.length ≤ 1000)
  | .tup l => ldats l
  | .lst l => ldats l
  | _ => false
def ldats : List PV → Bool
  | [] => true
  | x :: l => ldat x && ldats l
end
mutual
theorem imm_ldat : ∀ (v : PV), ldat v = true → imm v = true
  | .int _, _ => rfl
  | .str _, _ => rfl
  | .non, _ => rfl
  | .bl _, _ => rfl
  | .tup l, h => by
    simp only [ldat] at h
    exact imms_ldats l h
  | .lst l, h => by
    simp only [ldat] at h
    exact imms_ldats l h
  | .dct _ _, h => by simp [ldat] at h
  | .ref _, h => by simp [ldat] at h
  | .scr _, h => by simp [ldat] at h
theorem imms_ldats : ∀ (l : List PV), ldats l = true → imms l = true
  | [], _ => rfl
  | x :: l, h => by
    simp only [ldats, Bool.and_eq_true] at h
    simp only [imms, Bool.and_eq_true]
    exact ⟨imm_ldat x h.1, imms_ldats l h.2⟩
end
@[simp] theorem ldat_non : ldat .non = true := rfl
@[simp] theorem ldat_bl {b : Bool} : ldat (.bl b) = true := rfl
@[simp] theorem ldat_int {b : Int} : ldat (.int b) = true := rfl
@[simp] theorem ldat_str {b : Str} : ldat (.str b) = decide (b.length ≤ 1000) := rfl
@[simp] theorem ldat_tup {l : List PV} : ldat (.tup l) = ldats l := rfl
@[simp] theorem ldat_lst {l : List PV} : ldat (.lst l) = ldats l := rfl
@[simp] theorem ldats_nil : ldats [] = true := rfl
@[simp] theorem ldats_cons {x : PV} {l : List PV} : ldats (x :: l) = (ldat x && ldats l) := rfl
@[simp] theorem ldats_append {a b : List PV} : ldats (a ++ b) = (ldats a && ldats b) := by
  induction a with
  | nil => simp
  | cons x a ih => simp [ih, Bool.and_assoc]
theorem ldats_iff {l : List PV} : ldats l = true ↔ ∀ x ∈ l, ldat x = true := by
  induction l with
  | nil => simp
  | cons x l ih => simp [ih]
theorem ldats_map {α} {f : α → PV} {l : List α} (h : ∀ x ∈ l, ldat (f x) = true) : ldats (l.map f) = true := ldats_iff.mpr (by simpa using h)
theorem mem_ldat {l : List PV} {x : PV} (h : ldats l = true) (m : x ∈ l) : ldat x = true := ldats_iff.mp h x m
/-! words -/
def noS : List Str := ["all", "every", "each", "some", "a", "an", "no", "without", "are", "is", "by", "noun", "verb", "which", "ask", "why", "thing", "world", "showing", "book", "questions"]
def noL : List PV := noS.map .str
def lett (c : Nat) : Bool := decide (97 ≤ c) && decide (c ≤ 122)
/-- the first sign that is no letter -/
def fbL (l : List Nat) : Option Nat := l.findIdx? fun c => !lett c
/-- what is wrong with a word -/
def wrg : PV → Option Int
  | .str z => if z.length = 0 ∨ 10 < z.length ∨ z ∈ noS then some (-1) else (fbL z.cps.toList).map fun i => ((i : Nat) : Int)
  | _ => some (-1)
def optI : Option Int → PV
  | none => .non
  | some i => .int i
theorem flat_strs {l : List Str} : (l.map PV.str).all flat = true := by
  rw [List.all_map, List.all_eq_true]
  intro x _
  rfl
theorem any_strs {z : Str} {l : List Str} : ((l.map PV.str).any fun y => eqv y (.str z)) = decide (z ∈ l) := by
  rw [List.any_map]
  induction l with
  | nil => simp
  | cons x l ih =>
    rw [List.any_cons, ih]
    simp only [Function.comp]
    have : eqv (.str x) (.str z) = decide (z = x) := by
      show (x == z) = _
      rw [Bool.eq_iff_iff]
      simp
      exact eq_comm
    rw [this]
    simp
theorem in_strs {z : Str} {l : List Str} : cmpV h .inn (.str z) (.tup (l.map .str)) = some (decide (z ∈ l)) := by
  show (if (flat (.str z) && (l.map PV.str).all flat) || (shp 20 (.str z) && (l.map PV.str).all (shp 20)) then some ((l.map PV.str).any fun y => eqv y (.str z)) else none) = _
  rw [flat_strs, any_strs]
  rfl
theorem nin_strs {z : Str} {l : List Str} : cmpV h .nin (.str z) (.tup (l.map .str)) = some (!decide (z ∈ l)) := by
  show (if (flat (.str z) && (l.map PV.str).all flat) || (shp 20 (.str z) && (l.map PV.str).all (shp 20)) then some (!(l.map PV.str).any fun y => eqv y (.str z)) else none) = _
  rw [flat_strs, any_strs]
  rfl
theorem c_none : callM (rn (k + 1)) false 11 [] h = .ok (.tup noL) h :=
  callP_imm' (h1 := []) rfl (Wp_eq ((run_at (d := F11.d) rfl rfl).mpr (by simp [Fd.d, F11, b11, startE, noL, noS]))) rfl
theorem len_str {z : Str} (hz : z.length ≤ 1000) : bi1 h .len [.str z] = some (.int (z.length : Nat)) := by
  show (if z.length ≤ SZ then some _ else none : Option Int).map PV.int = _
  rw [if_pos (by have : SZ = 16777216 := rfl; omega)]
  rfl
theorem lett_in {c : Nat} : cmpV h .nin (.str ⟨#[c]⟩) (.str "abcdefghijklmnopqrstuvwxyz") = some (!lett c) := by
  have e : (Str.ofString "abcdefghijklmnopqrstuvwxyz").cps.toList = List.range' 97 26 := by decide +kernel
  show some (!decide (c ∈ (Str.ofString "abcdefghijklmnopqrstuvwxyz").cps.toList)) = _
  rw [e]
  congr 2
  rw [Bool.eq_iff_iff]
  simp [lett, List.mem_range']
  constructor
  · rintro ⟨i, h1, rfl⟩; omega
  · rintro ⟨h1, h2⟩; exact ⟨c - 97, by omega, by omega⟩
theorem lett_le {c : Nat} : cmpV h .le (.str "a") (.str ⟨#[c]⟩) = some (decide (97 ≤ c)) := by
  have e : (Str.ofString "a").cps.toList = [97] := by decide +kernel
  show some (!decide ([c] < (Str.ofString "a").cps.toList)) = _
  rw [e]
  congr 1
  rw [Bool.eq_iff_iff]
  simp [List.cons_le_cons_iff]
  omega
theorem lett_ge {c : Nat} : cmpV h .le (.str ⟨#[c]⟩) (.str "z") = some (decide (c ≤ 122)) := by
  have e : (Str.ofString "z").cps.toList = [122] := by decide +kernel
  show some (!decide ((Str.ofString "z").cps.toList < [c])) = _
  rw [e]
  congr 1
  rw [Bool.eq_iff_iff]
  simp [List.cons_le_cons_iff]
  omega
end Z

namespace Z
open PySem Y
variable {k : Nat} {h : Hh}
theorem len_cps {z : Str} : z.cps.toList.length = z.length := by simp [Str.length]
@[simp] theorem in_no {z : Str} : cmpV h .inn (.str z) (.tup [.str "all", .str "every", .str "each", .str "some", .str "a", .str "an", .str "no", .str "without", .str "are", .str "is", .str "by", .str "noun", .str "verb", .str "which", .str "ask", .str "why", .str "thing", .str "world", .str "showing", .str "book", .str "questions"]) = some (decide (z ∈ noS)) := in_strs (l := noS)
theorem txt_str {z : Str} (hz : z.length ≤ 1000) : txtL (.str z) = some (z.cps.toList.map fun c => .str ⟨#[c]⟩) := by
  show (if z.cps.size ≤ SZ then some _ else none) = _
  rw [if_pos (by have e : SZ = 16777216 := rfl; have : z.cps.size = z.length := rfl; omega)]
theorem ix_str {z : Str} {i : Nat} (hz : z.length ≤ 1000) (hi : i < z.cps.toList.length) : ixV h (.str z) (.int (i : Nat)) = some (.str ⟨#[z.cps.toList[i]]⟩) := by
  show (if z.length ≤ SZ then (L2.atI z.cps.toList (i : Nat)).map (fun c => PV.str ⟨#[c]⟩) else none) = _
  rw [if_pos (by have e : SZ = 16777216 := rfl; omega), atI_nat, List.getElem?_eq_getElem hi]
  rfl
theorem fbL_some {l : List Nat} {i : Nat} (hi : i < l.length) (h1 : lett l[i] = false) (h2 : ∀ j (hj : j < l.length), j < i → lett l[j] = true) : fbL l = some i := by
  unfold fbL
  rw [List.findIdx?_eq_some_iff_getElem]
  exact ⟨hi, by simp [h1], fun j hj => by simp [h2 j (by omega) hj]⟩
theorem fbL_none {l : List Nat} (h2 : ∀ j (hj : j < l.length), lett l[j] = true) : fbL l = none := by
  unfold fbL
  rw [List.findIdx?_eq_none_iff]
  intro x hx
  obtain ⟨j, hj, rfl⟩ := List.mem_iff_getElem.mp hx
  simp [h2 j hj]
def lenI : PV → Int
  | .str z => (z.length : Nat)
  | _ => 0
def XW (v : PV) : Nat → List PV → Prop := fun c fs => ∃ i, wrg v = some i ∧ c = 1 ∧ fs = [.int i]
theorem XW_dats {v : PV} (c : Nat) (fs : List PV) (h : XW v c fs) : dats fs = true := by
  obtain ⟨i, _, _, rfl⟩ := h; rfl
theorem sp_word {v : PV} (hv : ldat v = true) : WpX (XW v) (rn (k + 1) 1 [v]) [] fun r _ => wrg v = none ∧ r = .int (lenI v) := by
  refine (run_at (d := F1.d) rfl rfl).mpr ?_
  show WpX (XW v) (evSs (rn k) b1 [some v, none, none]) [] _
  cases v with
  | str z =>
    have hz : z.length ≤ 1000 := by simpa using hv
    by_cases c1 : z.length = 0 ∨ 10 < z.length ∨ z ∈ noS
    · have ew : wrg (.str z) = some (-1) := if_pos c1
      have fin : XW (.str z) 1 [.int (-1)] := ⟨-1, ew, rfl, rfl⟩
      by_cases d1 : (1 : Int) ≤ (z.length : Nat)
      · by_cases d2 : ((z.length : Nat) : Int) ≤ 10
        · by_cases d3 : z ∈ noS
          · simp [b1, len_str hz, d1, d2, d3]
            exact ⟨rfl, fin⟩
          · simp [d3] at c1
            exfalso
            omega
        · simp [b1, len_str hz, d1, d2]
          exact ⟨rfl, fin⟩
      · simp [b1, len_str hz, d1]
        exact ⟨rfl, fin⟩
    · have ew : wrg (.str z) = (fbL z.cps.toList).map fun i => ((i : Nat) : Int) := if_neg c1
      have d1 : (1 : Int) ≤ (z.length : Nat) := by omega
      have d2 : ((z.length : Nat) : Int) ≤ 10 := by omega
      have d3 : z ∉ noS := fun q => c1 (.inr (.inr q))
      simp [b1, len_str hz, d1, d2, d3, txt_str hz]
      refine Wp_forE (Xc := XW (.str z)) (fun c : Nat => PV.str ⟨#[c]⟩) z.cps.toList (fun i e h => ∃ w2 w3 : Option PV, e = [some (.str z), w2, w3] ∧ h = [] ∧ ∀ j (hj : j < z.cps.toList.length), j < i → lett z.cps.toList[j] = true) (fun _ _ _ _ => rfl) ?_ ?_ _ _ ⟨none, none, rfl, rfl, fun j _ hj => absurd hj (Nat.not_lt_zero _)⟩
      · rintro i c e h hx ⟨w2, w3, rfl, rfl, hj⟩
        obtain ⟨hlt, ex⟩ := List.getElem?_eq_some_iff.mp hx
        simp [lett_in]
        by_cases c1 : lett c = true
        · simp [c1]
          intro j hj1 hj2
          by_cases e : j = i
          · subst e
            rw [← ex] at c1
            simpa using c1
          · rw [← Array.getElem_toList]
            exact hj j (by simpa using hj1) (by omega)
        · simp [c1]
          refine ⟨rfl, (i : Nat), ?_, rfl, rfl⟩
          rw [ew, fbL_some hlt (by rw [ex]; simpa using c1) hj]
          rfl
      · rintro e h ⟨w2, w3, rfl, rfl, hj⟩
        simp [len_str hz, lenI]
        rw [ew, fbL_none fun j hj1 => hj j hj1 hj1]
        rfl
  | _ =>
    first
      | (simp [ldat] at hv; done)
      | (simp [b1]
         exact ⟨rfl, -1, rfl, rfl, rfl⟩)
theorem x_word {v : PV} (hv : ldat v = true) : WpX (XW v) (callM (rn (k + 1)) false 1 [v]) h fun r h' => h' = h ∧ wrg v = none ∧ r = .int (lenI v) :=
  Wx_callP (by simp [imm_ldat v hv]) XW_dats (Wp_mono (sp_word hv) fun r h' ⟨e1, e2⟩ => ⟨by rw [e2]; rfl, rfl, e1, e2⟩)
theorem c_isword {v : PV} (hv : ldat v = true) : callM (rn (k + 2)) false 2 [v] h = .ok (.bl (wrg v).isNone) h := by
  have main : Wp (rn (k + 2) 2 [v]) [] fun r _ => r = .bl (wrg v).isNone := by
    refine (run_at (d := F2.d) rfl rfl).mpr ?_
    show WpX noX (evSs (rn (k + 1)) b2 [some v]) [] _
    unfold b2
    refine S_cons.mpr ?_
    refine Wx_try (Xb := XW v) ?_ ?_
    · simp
      refine Wp_mono (x_word hv) ?_
      rintro r h' ⟨rfl, e, rfl⟩
      simp [e]
    · rintro c fs h' ⟨i, e, rfl, rfl⟩
      simp [hsM, e, hbV, List.lookup]
      exact ⟨rfl, rfl⟩
  obtain ⟨r, h', e, rfl⟩ := Wp_ok main
  exact callP_imm' (by simp [imm_ldat _ hv]) e rfl
theorem optI_imm (o : Option Int) : imm (optI o) = true := by cases o <;> rfl
theorem eq_nil {z : Str} : (z == Str.ofString "") = decide (z.length = 0) := by
  rw [Bool.eq_iff_iff]
  simp
  constructor
  · rintro rfl; rfl
  · intro e
    obtain ⟨⟨l⟩⟩ := z
    have : l = [] := List.eq_nil_of_length_eq_zero e
    subst this
    rfl
theorem c_wrong {v : PV} (hv : ldat v = true) : callM (rn (k + 2)) false 12 [v] h = .ok (optI (wrg v)) h := by
  have main : Wp (rn (k + 2) 12 [v]) [] fun r _ => r = optI (wrg v) := by
    refine (run_at (d := F12.d) rfl rfl).mpr ?_
    show WpX noX (evSs (rn (k + 1)) b12 [some v, none]) [] _
    cases v with
    | str z =>
      have hz : z.length ≤ 1000 := by simpa using hv
      by_cases c1 : z.length = 0 ∨ 10 < z.length ∨ z ∈ noS
      · have ew : wrg (.str z) = some (-1) := if_pos c1
        by_cases d1 : z.length = 0
        · simp [b12, eq_nil, d1, ew, optI]
        · by_cases d2 : (10 : Int) < ((z.length : Nat) : Int)
          · simp [b12, eq_nil, len_str hz, d1, d2, ew, optI]
          · have d3 : z ∈ noS := c1.elim (fun q => absurd q d1) fun q => q.elim (fun q => absurd q (by omega)) id
            simp [b12, eq_nil, len_str hz, d1, d2]
            refine Wp_of c_none ?_
            simp [noL, in_strs, d3, ew, optI]
      · have ew : wrg (.str z) = (fbL z.cps.toList).map fun i => ((i : Nat) : Int) := if_neg c1
        have d1 : ¬ z.length = 0 := by omega
        have d2 : ¬ (10 : Int) < ((z.length : Nat) : Int) := by omega
        have d3 : z ∉ noS := fun q => c1 (.inr (.inr q))
        have hzz : SZ = 16777216 := rfl
        simp [b12, eq_nil, len_str hz, d1, d2]
        refine Wp_of c_none ?_
        simp [noL, in_strs, d3, len_str hz, rng1_nat (n := z.length) (by omega)]
        refine Wp_forN z.length (fun i e h => ∃ w2 : Option PV, e = [some (.str z), w2] ∧ h = [] ∧ ∀ j (hj : j < z.cps.toList.length), j < i → lett z.cps.toList[j] = true) (fun _ _ _ _ => rfl) ?_ ?_ _ _ ⟨none, rfl, rfl, fun j _ hj => absurd hj (Nat.not_lt_zero _)⟩
        · rintro i e h hi ⟨w2, rfl, rfl, hj⟩
          have hlt : i < z.cps.toList.length := by rw [len_cps]; exact hi
          simp [ix_str hz hlt, lett_le, lett_ge]
          by_cases c1 : lett z.cps.toList[i] = true
          · have c2 := c1
            simp only [lett, Bool.and_eq_true, decide_eq_true_eq] at c2
            simp at c2
            simp [c2]
            intro j hj1 hj2
            by_cases e : j = i
            · subst e
              simpa using c1
            · rw [← Array.getElem_toList]
              exact hj j (by simpa using hj1) (by omega)
          · rw [Bool.not_eq_true] at c1
            have fin : PV.int (i : Nat) = optI (wrg (.str z)) := by
              rw [ew, fbL_some hlt c1 hj]
              rfl
            simp only [lett, Bool.and_eq_false_iff, decide_eq_false_iff_not] at c1
            simp at c1
            rcases c1 with c1 | c1
            · have : ¬ 97 ≤ z.cps[i] := by omega
              simp [this]
              exact fin
            · have : ¬ z.cps[i] ≤ 122 := by omega
              simp [this]
              exact fin
        · rintro e h ⟨w2, rfl, rfl, hj⟩
          simp
          rw [ew, fbL_none fun j hj1 => hj j hj1 (by rw [← len_cps]; exact hj1)]
          rfl
    | _ =>
      first
        | (simp [ldat] at hv; done)
        | (simp [b12, wrg, optI])
  obtain ⟨r, h', e, rfl⟩ := Wp_ok main
  exact callP_imm' (by simp [imm_ldat _ hv]) e (optI_imm _)
theorem c_tpN {v : PV} {n : Int} (hv : ldat v = true) : callM (rn (k + 1)) false 0 [v, .int n] h = .ok (.bl (match v with | .tup l => (l.length : Int) == n | _ => false)) h := by
  refine callP_imm' (h1 := []) (by simp [imm_ldat v hv]) (Wp_eq ((run_at (d := F0.d) rfl rfl).mpr ?_)) rfl
  cases v <;> first | (simp [Fd.d, F0, b0, startE]; done) | (simp [ldat] at hv)
end Z

namespace Z
open PySem Y
/-! what is compared: ints, texts, truth values, none, tuples of them -/
theorem same_step (k : Nat) : ∀ (fuel : Nat) (l : List PV) (w3 w4 w5 x y : Option PV), l.all gdat = true → nodesL l < fuel → nodesL l ≤ 100000 →
    Wp (whileF (evT (rn k) (.val (.cmp .gt (.bi .len [.var 2]) (.int 0)))) (evSs (rn k) [.asg (.tp [3, 4]) (.mt .pop0 (.var 2) []), .ite (.val (.isi (.var 4) .tuple)) [.ite (.boo false [.not (.val (.isi (.var 3) .tuple)), .val (.cmp .ne (.bi .len [.var 3]) (.bi .len [.var 4]))]) [.ret (.bl false)] [], .exp (.mt .extend (.var 2) [.comp1 (.nm 5) (.rng1 (.bi .len [.var 4])) [] (.tup [.ix (.var 3) (.var 5), .ix (.var 4) (.var 5)]) [5]])] [.ite (.val (.cmp .isn (.var 4) (.non))) [.ite (.val (.cmp .notn (.var 3) (.non))) [.ret (.bl false)] []] [.ite (.val (.isi (.var 4) .bool)) [.ite (.boo false [.not (.val (.isi (.var 3) .bool)), .val (.cmp .ne (.var 3) (.var 4))]) [.ret (.bl false)] []] [.ite (.val (.isi (.var 4) .str)) [.ite (.boo false [.not (.val (.isi (.var 3) .str)), .val (.cmp .ne (.var 3) (.var 4))]) [.ret (.bl false)] []] [.ite (.boo false [.not (.val (.isi (.var 3) .int)), .val (.isi (.var 3) .bool), .val (.cmp .ne (.var 3) (.var 4))]) [.ret (.bl false)] []]]]]]) fuel [x, y, some (.ref 0), w3, w4, w5]) [.lst (l.map fun v => .tup [v, v])] fun f h => ∃ w3 w4 w5, f = .nx [x, y, some (.ref 0), w3, w4, w5] := by
  intro fuel
  induction fuel with
  | zero => intro l _ _ _ _ _ _ h; exact absurd h (Nat.not_lt_zero _)
  | succ fuel ih =>
    intro l w3 w4 w5 x y hs hn hz
    refine Wp_whl.mpr ?_
    rcases List.eq_nil_or_concat l with rfl | ⟨l', v, rfl⟩
    · simp
    · rw [List.concat_eq_append] at *
      simp only [List.all_append, List.all_cons, List.all_nil, Bool.and_true, Bool.and_eq_true] at hs
      rw [nodesL_append] at hn hz
      simp only [nodesL] at hn hz
      have e1 : (0 : Int) < ((l'.length : Nat) : Int) + 1 := by omega
      cases v with
      | tup m =>
        have hm := len_nodes m
        have hl := len_nodes l'
        simp only [nodes] at hn hz
        simp [e1, List.getLast?_append, rng1_nat (n := m.length) (by have : SZ = 16777216 := rfl; omega)]
        rw [rangeL0_map]
        have key : mapG (fun _ => true) (turn1 (rn k) (.nm 5) [] (.tup [.ix (.var 3) (.var 5), .ix (.var 4) (.var 5)]) [x, y, some (.ref 0), some (.tup m), some (.tup m), none]) ((List.range m.length).map fun i => PV.int (i : Nat)) [.lst (l'.map fun v => .tup [v, v])] = .ok ((List.range m.length).map fun i => .tup [m.getD i .non, m.getD i .non]) [.lst (l'.map fun v => .tup [v, v])] :=
          mapG_map rfl fun i hi => Wp_eq (by
            have hi : i < m.length := List.mem_range.mp hi
            simp [List.getElem?_eq_getElem hi])
        refine Wp_of key ?_
        have e2 : ((List.range m.length).map fun i => PV.tup [m.getD i .non, m.getD i .non]) = m.map fun v => .tup [v, v] := by
          refine List.ext_getElem (by simp) fun i h1 h2 => ?_
          have : i < m.length := by simpa using h1
          simp [this]
        rw [e2]
        have hz' : SZ = 16777216 := rfl
        simp
        refine ⟨by omega, ?_⟩
        have := ih (l' ++ m) (some (.tup m)) (some (.tup m)) w5 x y (by rw [List.all_append, hs.1, gdats_all hs.2]; rfl) (by rw [nodesL_append]; omega) (by rw [nodesL_append]; omega)
        simpa using this
      | str s =>
        simp [e1, List.getLast?_append]
        have := ih l' (some (.str s)) (some (.str s)) w5 x y hs.1 (by simp only [nodes] at hn; omega) (by omega)
        simpa using this
      | int i =>
        simp [e1, List.getLast?_append]
        have := ih l' (some (.int i)) (some (.int i)) w5 x y hs.1 (by simp only [nodes] at hn; omega) (by omega)
        simpa using this
      | bl i =>
        simp [e1, List.getLast?_append]
        have := ih l' (some (.bl i)) (some (.bl i)) w5 x y hs.1 (by simp only [nodes] at hn; omega) (by omega)
        simpa using this
      | non =>
        simp [e1, List.getLast?_append]
        have := ih l' (some .non) (some .non) w5 x y hs.1 (by simp only [nodes] at hn; omega) (by omega)
        simpa using this
      | _ => simp [gdat] at hs
theorem sp_same {k : Nat} {v : PV} (hs : gdat v = true) (hn : nodes v ≤ 100000) : Wp (rn (k + 1) 10 [v, v]) [] fun r _ => r = .bl true := by
  refine (run_at (d := F10.d) rfl rfl).mpr ?_
  simp [Fd.d, F10, b10, startE]
  refine Wp_mono (same_step k WF [v] none none none (some v) (some v) (by simp [hs]) (by simp [nodesL, WF]; omega) (by simp [nodesL]; omega)) ?_
  rintro f h ⟨w3, w4, w5, rfl⟩
  simp
theorem c_same {k : Nat} {h : Hh} {v : PV} (hs : gdat v = true) (hn : nodes v ≤ 100000) : callM (rn (k + 1)) false 10 [v, v] h = .ok (.bl true) h := by
  obtain ⟨r, h', e, rfl⟩ := Wp_ok (sp_same (k := k) hs hn)
  exact callP_imm' (by simp [imm_gdat _ hs]) e rfl
/-! the drawing machine -/
variable {k : Nat} {h : Hh}
abbrev prV (p : Int × Int) : PV := .tup [.int p.1, .int p.2]
abbrev pls : List Int := [1, 2, 3]
/-- the mill, at c: its own rows at l and d -/
structure MlD (c l d : Nat) (w : Int) (gs ks : List Int) (vs : List (Int × Int)) (h : Hh) : Prop where
  cl : c ≠ l
  cd : c ≠ d
  ld : l ≠ d
  hc : h[c]? = some (.lst [.int w, .ref l, .ref d])
  hl : h[l]? = some (.lst (gs.map .int))
  hd : h[d]? = some (.dct (ks.map .int) (vs.map prV))
  gl : gs.length ≤ 100
  nd : ks.Nodup
  kin : ∀ x ∈ ks, x ∈ pls
  len : ks.length = vs.length
  v0 : ∀ p ∈ vs, 0 ≤ p.1
def Ml (c : Nat) (S : List Nat) (h : Hh) : Prop := ∃ l d w gs ks vs, S = [c, l, d] ∧ MlD c l d w gs ks vs h
theorem Ml.same {c : Nat} {S : List Nat} {h h' : Hh} (C : Ml c S h) (s : Same S h h') : Ml c S h' := by
  obtain ⟨l, d, w, gs, ks, vs, rfl, C⟩ := C
  exact ⟨l, d, w, gs, ks, vs, rfl, C.cl, C.cd, C.ld, by rw [s c (by simp)]; exact C.hc, by rw [s l (by simp)]; exact C.hl, by rw [s d (by simp)]; exact C.hd, C.gl, C.nd, C.kin, C.len, C.v0⟩
theorem Ml.lt {c : Nat} {S : List Nat} {h : Hh} (C : Ml c S h) : ∀ i ∈ S, i < h.length := by
  obtain ⟨l, d, w, gs, ks, vs, rfl, C⟩ := C
  intro i m
  simp at m
  rcases m with rfl | rfl | rfl
  · exact (List.getElem?_eq_some_iff.mp C.hc).1
  · exact (List.getElem?_eq_some_iff.mp C.hl).1
  · exact (List.getElem?_eq_some_iff.mp C.hd).1
theorem Ml.push {c : Nat} {S : List Nat} {h : Hh} (C : Ml c S h) (l : Hh) : Ml c S (h ++ l) := C.same (Same.push C.lt l)
theorem Ml.set {c : Nat} {S : List Nat} {h : Hh} (C : Ml c S h) {t : Nat} (n : t ∉ S) (o : Ob) : Ml c S (h.set t o) := C.same (Same.set n o)
/-- one number of the mill: the keys stay -/
theorem sp_beanD {c l d : Nat} {w : Int} {gs ks : List Int} {vs : List (Int × Int)} {m : Int} (h0 : 0 < m) (h1 : m < 1073741824) (C : MlD c l d w gs ks vs h) :
    Wp (rn (k + 1) 8 [.ref c, .int m]) h fun v h' => ∃ z : Nat, v = .int z ∧ (z : Int) < m ∧ Step [c, l, d] h [c, l, d] h' ∧ ∃ w gs, MlD c l d w gs ks vs h' := by
  have hcl := C.cl
  have hcd := C.cd
  have hld := C.ld
  have lc := (List.getElem?_eq_some_iff.mp C.hc).1
  have ll := (List.getElem?_eq_some_iff.mp C.hl).1
  have e64 : i64 89597 = true := by decide
  have toN : ∀ {a : Int} {X : Prop}, 0 ≤ a → a < m → X → ∃ z : Nat, a = (z : Int) ∧ (z : Int) < m ∧ X := fun {a X} h0 h1 x => ⟨a.toNat, (Int.toNat_of_nonneg h0).symm, by rw [Int.toNat_of_nonneg h0]; exact h1, x⟩
  have X1 : ∀ gs' : List Int, gs'.length ≤ 100 → Step [c, l, d] h [c, l, d] (h.set l (.lst (gs'.map .int))) ∧ ∃ w gs, MlD c l d w gs ks vs (h.set l (.lst (gs'.map .int))) := fun gs' q =>
    ⟨⟨by simp, fun i hi m => ⟨List.getElem?_set_ne (by rintro rfl; simp at m), m⟩⟩, w, gs', hcl, hcd, hld, by rw [List.getElem?_set_ne hcl.symm]; exact C.hc, List.getElem?_set_self ll, by rw [List.getElem?_set_ne hld]; exact C.hd, q, C.nd, C.kin, C.len, C.v0⟩
  refine (run_at (d := F8.d) rfl rfl).mpr ?_
  simp [Fd.d, F8, b8, startE, C.hc, C.hl]
  by_cases hl : 0 < gs.length
  · obtain ⟨gs, x, rfl⟩ := snoc_ex hl
    have hgl := C.gl
    simp at hgl
    have hz : SZ = 16777216 := rfl
    simp [C.hc, C.hl, List.getElem?_set_ne hcl.symm, List.getElem?_set_self ll, h0, h1]
    have b0 := Int.emod_nonneg x (show m ≠ 0 by omega)
    have b1 := Int.emod_lt_of_pos x h0
    have Y1 := X1 gs (by omega)
    have Y2 := X1 (gs ++ [x / m]) (by simp; omega)
    simp only [List.map_append, List.map_cons, List.map_nil] at Y2
    repeat' split
    all_goals first
      | exact toN b0 b1 Y1
      | exact ⟨by omega, toN b0 b1 Y2⟩
      | exact toN b0 b1 Y2
      | omega
  · have : gs = [] := List.eq_nil_of_length_eq_zero (by omega)
    subst this
    simp [C.hc, C.hl, e64, h0, List.getElem?_set_self lc]
    refine toN (Int.emod_nonneg _ (by omega)) (Int.emod_lt_of_pos _ h0) ⟨⟨by simp, fun i hi m => ⟨List.getElem?_set_ne (by rintro rfl; simp at m), m⟩⟩, _, [], hcl, hcd, hld, List.getElem?_set_self lc, by rw [List.getElem?_set_ne hcl]; exact C.hl, by rw [List.getElem?_set_ne hcd]; exact C.hd, by simp, C.nd, C.kin, C.len, C.v0⟩
theorem sp_bean {c : Nat} {S : List Nat} {m : Int} (h0 : 0 < m) (h1 : m < 1073741824) (C : Ml c S h) :
    Wp (rn (k + 1) 8 [.ref c, .int m]) h fun v h' => ∃ z : Nat, v = .int z ∧ (z : Int) < m ∧ ∃ S', Ml c S' h' ∧ Step S h S' h' := by
  obtain ⟨l, d, w, gs, ks, vs, rfl, C⟩ := C
  refine Wp_mono (sp_beanD h0 h1 C) ?_
  rintro v h' ⟨z, rfl, hz, st, w, gs, C'⟩
  exact ⟨z, rfl, hz, _, ⟨l, d, w, gs, ks, vs, rfl, C'⟩, st⟩
theorem sp_spoon {c : Nat} {S : List Nat} {m p : Int} (hp : p ∈ pls) (h0 : 0 < m) (h1 : m < 1073741824) (C : Ml c S h) :
    Wp (rn (k + 2) 9 [.ref c, .int p, .int m]) h fun v h' => ∃ z : Nat, v = .int z ∧ (z : Int) < m ∧ ∃ S', Ml c S' h' ∧ Step S h S' h' := by
  obtain ⟨l, d, w, gs, ks, vs, rfl, C⟩ := C
  have hz : SZ = 16777216 := rfl
  refine (run_at (d := F9.d) rfl rfl).mpr ?_
  show Wp (evSs (rn (k + 1)) b9 [some (.ref c), some (.int p), some (.int m), none, none, none]) h _
  refine S_cut 1 ?_
  refine Wp_mono (Φ := fun f h' => f = .nx [some (.ref c), some (.int p), some (.int m), none, none, none] ∧ Step [c, l, d] h [c, l, d] h' ∧ ∃ w gs ks vs, MlD c l d w gs ks vs h' ∧ p ∈ ks) ?_ ?_
  · by_cases hm : p ∈ ks
    · obtain ⟨q, hq, e⟩ := dget_int (f := prV) C.len hm
      simp [b9, C.hc, C.hd, e]
      exact ⟨Step.refl, w, gs, ks, ⟨vs, C⟩, hm⟩
    · have e := dget_int_none (f := prV) (vs := vs) hm
      simp [b9, C.hc, C.hd, e]
      refine Wp_mono (sp_beanD (m := 11) (by decide) (by decide) C) ?_
      rintro v h1 ⟨y, rfl, hy, st1, w1, gs1, C1⟩
      refine Wp_mono (sp_beanD (m := 929) (by decide) (by decide) C1) ?_
      rintro v h2 ⟨z, rfl, hz', st2, w2, gs2, C2⟩
      have e2 := dput_int_new (f := prV) (vs := vs) (v := .tup [.int y, .int z]) hm
      have hks : ks.length < SZ := by
        have := nodup_le ks pls C.nd C.kin
        simp at this
        omega
      have lc := (List.getElem?_eq_some_iff.mp C2.hd).1
      simp [C2.hc, C2.hd, e2, hks]
      refine ⟨⟨by rw [List.length_set]; exact (st1.trans st2).len, fun i hi n => ?_⟩, w2, gs2, ks ++ [p], ⟨vs ++ [((y : Int), (z : Int))], C2.cl, C2.cd, C2.ld, by rw [List.getElem?_set_ne C2.cd.symm]; exact C2.hc, by rw [List.getElem?_set_ne C2.ld.symm]; exact C2.hl, by rw [List.getElem?_set_self lc]; simp, C2.gl, ?_, ?_, by simp [C.len], ?_⟩, by simp⟩
      · obtain ⟨e, n'⟩ := (st1.trans st2).keep i hi n
        exact ⟨by rw [List.getElem?_set_ne (by rintro rfl; simp at n)]; exact e, n'⟩
      · rw [List.nodup_append]
        refine ⟨C.nd, by simp, ?_⟩
        intro a ha b hb
        simp at hb
        subst hb
        rintro rfl
        exact hm ha
      · intro x hx
        rcases List.mem_append.mp hx with hx | hx
        · exact C.kin x hx
        · simp only [List.mem_singleton] at hx
          subst hx
          exact hp
      · intro x hx
        rcases List.mem_append.mp hx with hx | hx
        · exact C.v0 x hx
        · simp only [List.mem_singleton] at hx
          subst hx
          exact Int.natCast_nonneg _
  · rintro f hA ⟨rfl, st1, w1, gs1, ks1, vs1, C1, hm⟩
    obtain ⟨q, hq, e⟩ := dget_int (f := prV) C1.len hm
    have q0 := C1.v0 q hq
    show Wp (evSs _ (b9.drop 1) _) _ _
    simp [b9, C1.hc, C1.hd, e]
    refine Wp_mono (sp_beanD h0 h1 C1) ?_
    rintro v h2 ⟨y, rfl, hy, st2, w2, gs2, C2⟩
    have X : ∃ S', Ml c S' h2 ∧ Step [c, l, d] h S' h2 := ⟨_, ⟨l, d, w2, gs2, ks1, vs1, rfl, C2⟩, st1.trans st2⟩
    have toN : ∀ {a : Int} {X : Prop}, 0 ≤ a → a < m → X → ∃ z : Nat, a = (z : Int) ∧ (z : Int) < m ∧ X := fun {a X} h0 h1 x => ⟨a.toNat, (Int.toNat_of_nonneg h0).symm, by rw [Int.toNat_of_nonneg h0]; exact h1, x⟩
    have i64m : i64 (m - 1) = true := by unfold i64; exact decide_eq_true (by omega)
    simp [h0, i64m]
    split
    · have : q.1 = 0 ∨ q.1 = 1 := by omega
      rcases this with e | e <;> rw [e] <;> simp
      · exact toN (Int.le_refl _) h0 X
      · exact toN (by omega) (by omega) X
    · split
      · exact toN (Int.emod_nonneg _ (by omega)) (Int.emod_lt_of_pos _ h0) X
      · exact ⟨y, rfl, hy, X⟩
theorem sp_jar {zs : List Int} : Wp (rn (k + 1) 7 [.scr (zs.map .int)]) [] fun v h' => v = .ref 2 ∧ Ml 2 [2, 0, 1] h' := by
  obtain ⟨M, hM, eM⟩ := shl_ex (j := 1480) (by decide) (by decide)
  obtain ⟨T, hT, eT⟩ := pow_ex (i := 10) (j := 18) (by decide) (by decide) (by decide) (by decide)
  have a1 : i64 99817 = true := by decide
  have a2 : i64 73 = true := by decide
  refine (run_at (d := F7.d) rfl rfl).mpr ?_
  simp [Fd.d, F7, b7, startE, dctV, dctF, slV, cut_map]
  refine Wp_forM PV.int (fun r e h => ∃ (l : List Int) (w : Int) (a b : Option PV), e = [some (.scr (zs.map .int)), some (.ref 2), a, b] ∧ h = [.lst (l.map .int), .dct [] [], .lst [.int w, .ref 0, .ref 1]] ∧ r.length + l.length ≤ 47) (fun r e h _ => rfl) ?_ ?_ _ _ _ ⟨[], 10111, none, none, rfl, rfl, ?_⟩
  · rintro x r e h ⟨l, w, a, b, rfl, rfl, hl⟩
    simp [eM, eT, hM, a1, a2]
    simp at hl
    have hz : SZ = 16777216 := rfl
    repeat' split
    all_goals first | exact ⟨by omega, _ :: l, by simp; rfl, by simp; omega⟩ | exact ⟨l, rfl, by omega⟩
  · rintro e h ⟨l, w, a, b, rfl, rfl, hl⟩
    simp
    exact ⟨0, 1, w, l, [], [], rfl, by decide, by decide, by decide, rfl, rfl, rfl, by simp at hl; omega, List.nodup_nil, by simp, rfl, by simp⟩
  · rw [show cut zs none (some 47) = zs.take 47 from cut_take (n := 47)]
    simp
    omega
end Z

namespace Z
open PySem Y
variable {k : Nat} {h : Hh}
/-! each once -/
def ddF (a l : List PV) : List PV := l.foldl (fun a k => if a.any (fun y => decide (y = k)) then a else a ++ [k]) a
theorem ddF_cons {a l : List PV} {x : PV} : ddF a (x :: l) = ddF (if a.any (fun y => decide (y = x)) then a else a ++ [x]) l := rfl
theorem ddS_len : ∀ (l a : List PV), (ddF a l).length ≤ a.length + l.length ∧ ((ddF a l).length = a.length + l.length ↔ l.Nodup ∧ ∀ x ∈ l, x ∉ a)
  | [], a => by simp [ddF]
  | x :: l, a => by
    rw [ddF_cons]
    by_cases c : a.any (fun y => decide (y = x)) = true
    · rw [if_pos c]
      obtain ⟨h1, h2⟩ := ddS_len l a
      refine ⟨by rw [List.length_cons]; omega, ?_⟩
      constructor
      · intro e
        rw [List.length_cons] at e
        omega
      · rintro ⟨_, q⟩
        exfalso
        obtain ⟨y, hy, e⟩ := List.any_eq_true.mp c
        have : y = x := of_decide_eq_true e
        subst this
        exact q y (by simp) hy
    · rw [if_neg c]
      have c' : x ∉ a := fun m => c (List.any_eq_true.mpr ⟨x, m, decide_eq_true rfl⟩)
      obtain ⟨h1, h2⟩ := ddS_len l (a ++ [x])
      rw [List.length_append, List.length_singleton] at h1
      refine ⟨by rw [List.length_cons]; omega, ?_⟩
      rw [show a.length + (x :: l).length = (a ++ [x]).length + l.length by rw [List.length_cons, List.length_append, List.length_singleton]; omega, h2]
      constructor
      · rintro ⟨n, q⟩
        refine ⟨List.nodup_cons.mpr ⟨fun m => q x m (by simp), n⟩, fun y m => ?_⟩
        rcases List.mem_cons.mp m with rfl | m
        · exact c'
        · exact fun p => q y m (List.mem_append.mpr (.inl p))
      · rintro ⟨n, q⟩
        obtain ⟨n1, n2⟩ := List.nodup_cons.mp n
        refine ⟨n2, fun y m p => ?_⟩
        rcases List.mem_append.mp p with p | p
        · exact q y (List.mem_cons_of_mem _ m) p
        · rw [List.mem_singleton] at p
          subst p
          exact n1 m
theorem nodup_map {ss : List Str} : (ss.map PV.str).Nodup ↔ ss.Nodup := by
  induction ss with
  | nil => simp
  | cons x l ih => simp [ih]
theorem lset_strs {ss : List Str} (hz : ss.length ≤ 1000) : ∃ n : Nat, lsetV h (.tup (ss.map .str)) = some (n : Int) ∧ n ≤ ss.length ∧ (n = ss.length ↔ ss.Nodup) := by
  obtain ⟨h1, h2⟩ := ddS_len (ss.map .str) []
  have e0 : ddF [] (ss.map PV.str) = ddP (ss.map PV.str) := rfl
  rw [e0] at h1 h2
  refine ⟨(ddP (ss.map .str)).length, ?_, by simpa using h1, ?_⟩
  · show (if (ss.map PV.str).all isKey && decide ((ss.map PV.str).length ≤ 4000) then some (((ddP (ss.map .str)).length : Nat) : Int) else none) = _
    rw [if_pos]
    rw [Bool.and_eq_true]
    refine ⟨?_, by simp; omega⟩
    rw [List.all_map, List.all_eq_true]
    intro x _
    rfl
  · simp only [List.length_nil, List.length_map, Nat.zero_add] at h2
    rw [show (ddP (ss.map .str)).length = ss.length ↔ _ from h2, nodup_map]
    simp
/-! forms -/
def addF (ws : List Str) : List PV → Option (List Str)
  | [] => some ws
  | .str z :: fs => if wrg (.str z) = none ∧ z ∉ ws then addF (ws ++ [z]) fs else none
  | _ :: _ => none
theorem addF_iff : ∀ {l : List PV} {ws ws' : List Str}, addF ws l = some ws' ↔ ∃ zs : List Str, l = zs.map .str ∧ (∀ z ∈ zs, wrg (.str z) = none) ∧ zs.Nodup ∧ (∀ z ∈ zs, z ∉ ws) ∧ ws' = ws ++ zs
  | [], ws, ws' => by
    simp only [addF]
    constructor
    · intro e
      injection e with e
      exact ⟨[], rfl, by simp, by simp, by simp, by simp [e]⟩
    · rintro ⟨zs, e, _, _, _, rfl⟩
      have : zs = [] := by cases zs with | nil => rfl | cons a b => cases e
      subst this
      simp
  | x :: l, ws, ws' => by
    cases x with
    | str z =>
      simp only [addF]
      by_cases c : wrg (.str z) = none ∧ z ∉ ws
      · rw [if_pos c, addF_iff]
        constructor
        · rintro ⟨zs, rfl, q1, q2, q3, rfl⟩
          refine ⟨z :: zs, rfl, ?_, ?_, ?_, by simp⟩
          · intro y m
            rcases List.mem_cons.mp m with rfl | m
            · exact c.1
            · exact q1 y m
          · rw [List.nodup_cons]
            exact ⟨fun m => q3 z m (by simp), q2⟩
          · intro y m
            rcases List.mem_cons.mp m with rfl | m
            · exact c.2
            · exact fun p => q3 y m (by simp [p])
        · rintro ⟨zs, e, q1, q2, q3, rfl⟩
          cases zs with
          | nil => cases e
          | cons y zs =>
            simp only [List.map_cons] at e
            injection e with e1 e2
            injection e1 with e1
            subst e1 e2
            rw [List.nodup_cons] at q2
            refine ⟨zs, rfl, fun y m => q1 y (List.mem_cons_of_mem _ m), q2.2, fun y m p => ?_, by simp⟩
            rcases List.mem_append.mp p with p | p
            · exact q3 y (List.mem_cons_of_mem _ m) p
            · rw [List.mem_singleton] at p
              subst p
              exact q2.1 m
      · rw [if_neg c]
        constructor
        · intro e; cases e
        · rintro ⟨zs, e, q1, q2, q3, rfl⟩
          cases zs with
          | nil => cases e
          | cons y zs =>
            simp only [List.map_cons] at e
            injection e with e1 e2
            injection e1 with e1
            subst e1
            exact absurd ⟨q1 z (by simp), q3 z (by simp)⟩ c
    | _ =>
      simp only [addF]
      constructor
      · intro e; cases e
      · rintro ⟨zs, e, _⟩
        cases zs <;> cases e
def lot (m : Nat) (ws : List Str) : PV → Option (List Str)
  | .tup l => if l.length = m then addF ws l else none
  | _ => none
theorem str_inj {a b : List Str} (e : a.map PV.str = b.map .str) : a = b := (List.map_inj_right (fun x y e => by injection e)).mp e
theorem strs_of {l : List PV} (h : ∀ x ∈ l, wrg x = none) : ∃ zs : List Str, l = zs.map .str := by
  induction l with
  | nil => exact ⟨[], rfl⟩
  | cons x l ih =>
    obtain ⟨zs, rfl⟩ := ih fun y m => h y (List.mem_cons_of_mem _ m)
    have e := h x (by simp)
    cases x with
    | str z => exact ⟨z :: zs, rfl⟩
    | _ => cases e
theorem ldats_strs {ws : List Str} (h : ∀ z ∈ ws, z.length ≤ 1000) : ldats (ws.map .str) = true := ldats_map fun z m => by simpa using h z m
theorem c_formsw {v : PV} {m : Nat} {ws : List Str} (hv : ldat v = true) (hm : m ≤ 100) : callM (rn (k + 3)) false 3 [v, .int (m : Nat), .lst (ws.map .str)] h = .ok (.bl (lot m ws v).isNone) h := by
  have hi : imms (ws.map PV.str) = true := by
    induction ws with
    | nil => rfl
    | cons x l ih => simpa [imms, imm] using ih
  refine callP_imm' (h1 := []) (by simp [imm_ldat v hv, hi]) (Wp_eq ((run_at (d := F3.d) rfl rfl).mpr ?_)) rfl
  show Wp (evSs (rn (k + 2)) b3 [some v, some (.int (m : Nat)), some (.lst (ws.map .str)), none]) [] _
  simp [b3]
  refine Wp_of (c_tpN hv) ?_
  cases v with
  | tup l =>
    simp
    by_cases c1 : l.length = m
    · have key := mapG_map (h := []) (g := grd (.tup l) l) (f := turn1 (rn (k + 2)) (.nm 3) [] (.call false 2 [.var 3]) [some (.tup l), some (.int (m : Nat)), some (.lst (ws.map .str)), none]) (A := id) (B := fun x => PV.bl (wrg x).isNone) (l := l) rfl fun x hx => Wp_eq (by
        have hx' := mem_ldat (by simpa using hv) hx
        simp
        exact Wp_of (c_isword hx') (by simp))
      rw [List.map_id] at key
      have c1' : ((l.length : Nat) : Int) = (m : Nat) := by omega
      simp [c1']
      refine Wp_of key ?_
      rw [show (l.map fun x => PV.bl (wrg x).isNone) = (l.map fun x => (wrg x).isNone).map .bl by simp, all_bls]
      by_cases c2 : ∀ x ∈ l, wrg x = none
      · obtain ⟨zs, rfl⟩ := strs_of c2
        have hz : zs.length ≤ 1000 := by simp at c1; omega
        have hl : zs.length = m := by simpa using c1
        obtain ⟨n, e, hn, hd⟩ := lset_strs (h := []) hz
        have c2' : ((zs.map PV.str).map fun x => (wrg x).isNone).all id = true := by
          rw [List.all_map, List.all_eq_true]
          intro x hx
          simp [c2 x hx]
        rw [c2']
        simp [e]
        have e3 : lot m ws (.tup (zs.map .str)) = addF ws (zs.map .str) := if_pos (by simpa using hl)
        by_cases c3 : n < m
        · rw [if_pos c3, e3]
          simp only [c3, decide_true]
          cases q : addF ws (zs.map .str) with
          | none => rfl
          | some ws' =>
            exfalso
            obtain ⟨zs', e1, _, nd, _⟩ := addF_iff.mp q
            have : zs' = zs := by
              exact (str_inj e1).symm
            subst this
            have := hd.mpr nd
            omega
        · rw [if_neg c3]
          have nd := hd.mp (by omega)
          have key2 := mapG_map (h := []) (g := grd (.tup (zs.map .str)) (zs.map .str)) (f := turn1 (rn (k + 2)) (.nm 3) [] (.cmp .inn (.var 3) (.var 2)) [some (.tup (zs.map .str)), some (.int (m : Nat)), some (.lst (ws.map .str)), none]) (A := PV.str) (B := fun z => PV.bl (decide (z ∈ ws))) (l := zs) rfl fun x hx => Wp_eq (by
            have : cmpV [] .inn (.str x) (.lst (ws.map .str)) = some (decide (x ∈ ws)) := by
              show (if (flat (.str x) && (ws.map PV.str).all flat) || (shp 20 (.str x) && (ws.map PV.str).all (shp 20)) then some ((ws.map PV.str).any fun y => eqv y (.str x)) else none) = _
              rw [flat_strs, any_strs]
              rfl
            simp [this])
          refine Wp_of key2 ?_
          rw [show (zs.map fun z => PV.bl (decide (z ∈ ws))) = (zs.map fun z => decide (z ∈ ws)).map .bl by simp, any_blsB]
          rw [e3]
          by_cases c4 : ∃ z ∈ zs, z ∈ ws
          · have : (zs.map fun z => decide (z ∈ ws)).any id = true := by simpa using c4
            rw [this]
            cases q : addF ws (zs.map .str) with
            | none => simp
            | some ws' =>
              exfalso
              obtain ⟨zs', e1, _, _, q4, _⟩ := addF_iff.mp q
              have : zs' = zs := by
                exact (str_inj e1).symm
              subst this
              obtain ⟨z, m1, m2⟩ := c4
              exact q4 z m1 m2
          · have : (zs.map fun z => decide (z ∈ ws)).any id = false := by
              rw [Bool.eq_false_iff]
              simpa using c4
            rw [this, addF_iff.mpr ⟨zs, rfl, fun z m => c2 _ (List.mem_map_of_mem m), nd, fun z m p => c4 ⟨z, m, p⟩, rfl⟩]
            simp
      · have c2' : (l.map fun x => (wrg x).isNone).all id = false := by
          rw [Bool.eq_false_iff]
          intro q
          refine c2 fun x hx => ?_
          rw [List.all_map, List.all_eq_true] at q
          simpa using q x hx
        rw [c2']
        have e3 : lot m ws (.tup l) = addF ws l := if_pos c1
        simp [e3]
        cases q : addF ws l with
        | none => rfl
        | some ws' =>
          exfalso
          obtain ⟨zs', rfl, q2, _⟩ := addF_iff.mp q
          refine c2 fun x hx => ?_
          obtain ⟨z, m, rfl⟩ := List.mem_map.mp hx
          exact q2 z m
    · have c1' : ¬ ((l.length : Nat) : Int) = (m : Nat) := by omega
      have e3 : lot m ws (.tup l) = none := if_neg c1
      simp [c1', e3]
  | _ => first | (simp [ldat] at hv; done) | (simp [lot])
end Z

namespace Z
open PySem Y
variable {k : Nat} {h : Hh}
def part (m : Nat) : List Str → Nat → List PV → Nat ⊕ List Str
  | ws, _, [] => .inr ws
  | ws, i, x :: xs => match lot m ws x with
    | none => .inl i
    | some ws' => part m ws' (i + 1) xs
theorem lot_some {m : Nat} {ws ws' : List Str} {x : PV} (e : lot m ws x = some ws') : ∃ zs : List Str, x = .tup (zs.map .str) ∧ zs.length = m ∧ ws' = ws ++ zs := by
  cases x with
  | tup l =>
    by_cases c : l.length = m
    · rw [show lot m ws (.tup l) = addF ws l from if_pos c] at e
      obtain ⟨zs, rfl, _, _, _, rfl⟩ := addF_iff.mp e
      exact ⟨zs, rfl, by simpa using c, rfl⟩
    · rw [show lot m ws (.tup l) = none from if_neg c] at e
      cases e
  | _ => cases e
theorem imms_strs (ws : List Str) : imms (ws.map PV.str) = true := by
  induction ws with
  | nil => rfl
  | cons x l ih => simpa [imms, imm] using ih
theorem drop_at {l : List PV} {i : Nat} {x : PV} (e : l[i]? = some x) : l.drop i = x :: l.drop (i + 1) := by
  obtain ⟨h1, h2⟩ := List.getElem?_eq_some_iff.mp e
  rw [List.drop_eq_getElem_cons h1, h2]
def XP (m : Nat) (ws : List Str) (l : List PV) (w : Str) : Nat → List PV → Prop := fun c fs => ∃ i, part m ws 0 l = .inl i ∧ c = 0 ∧ fs = [.int (i : Nat), .str w]
theorem sp_parts {l : List PV} {m : Nat} {w : Str} {ws : List Str} (hl : ldats l = true) (hm : m ≤ 100) (hz : ws.length + m * l.length ≤ 1000) :
    WpX (XP m ws l w) (rn (k + 4) 4 [.tup l, .int (m : Nat), .str w, .ref 0]) [.lst (ws.map .str)] fun r h' => ∃ ws', part m ws 0 l = .inr ws' ∧ r = .non ∧ h' = [.lst (ws'.map .str)] ∧ ws'.length ≤ ws.length + m * l.length := by
  refine (run_at (d := F4.d) rfl rfl).mpr ?_
  show WpX _ (evSs (rn (k + 3)) b4 [some (.tup l), some (.int (m : Nat)), some (.str w), some (.ref 0), none, none]) _ _
  simp [b4]
  rw [show enumL 0 l = enumL 0 (l.map id) by rw [List.map_id]]
  refine Wp_forE (Xc := XP m ws l w) id l (fun i e h => ∃ (w4 w5 : Option PV) (ws1 : List Str), e = [some (.tup l), some (.int (m : Nat)), some (.str w), some (.ref 0), w4, w5] ∧ h = [.lst (ws1.map .str)] ∧ part m ws 0 l = part m ws1 i (l.drop i) ∧ ws1.length ≤ ws.length + m * i) (fun _ _ _ _ => rfl) ?_ ?_ _ _ ⟨none, none, ws, rfl, rfl, rfl, by omega⟩
  · rintro i x e h hx ⟨w4, w5, ws1, rfl, rfl, hp, hs⟩
    have hlt := (List.getElem?_eq_some_iff.mp hx).1
    have hd : ldat x = true := mem_ldat hl (List.mem_of_getElem? hx)
    rw [drop_at hx] at hp
    have hf : [x, .int (m : Nat), .ref 0].mapM (frz [.lst (ws1.map .str)] frzD) = some [x, .int (m : Nat), .lst (ws1.map .str)] := by
      have e1 : frz [.lst (ws1.map .str)] frzD x = some x := frz_imm (imm_ldat x hd)
      have e2 : frz [.lst (ws1.map .str)] frzD (.int (m : Nat)) = some (.int (m : Nat)) := frz_imm rfl
      have e3 : frz [.lst (ws1.map .str)] frzD (.ref 0) = some (.lst (ws1.map .str)) := frz_ref rfl (imms_strs ws1)
      simp [e1, e2, e3]
    simp
    refine Wp_of (callM_frz hf (by simp [imm_ldat x hd, imms_strs]) rfl (c_formsw hd hm)) ?_
    cases q : lot m ws1 x with
    | none =>
      simp
      refine ⟨⟨rfl, rfl⟩, i, ?_, rfl, rfl⟩
      rw [hp, part, q]
    | some ws' =>
      obtain ⟨zs, rfl, hzs, rfl⟩ := lot_some q
      have hmi : m * (i + 1) ≤ m * l.length := Nat.mul_le_mul_left m hlt
      have hmi2 : m * (i + 1) = m * i + m := Nat.mul_succ m i
      have hSZ : SZ = 16777216 := rfl
      simp
      refine ⟨by omega, ws1 ++ zs, by simp, ?_, ?_⟩
      · rw [hp, part, q]
      · simp; omega
  · rintro e h ⟨w4, w5, ws1, rfl, rfl, hp, hs⟩
    simp [part] at hp
    exact ⟨ws1, hp, rfl, hs⟩
/-! lexicons -/
def faultB (ns vs : List PV) : Option (Int × Str) :=
  if ns.length = 0 ∨ 5 < ns.length then some (-1, "nouns") else if 2 < vs.length then some (-1, "verbs") else match part 2 [] 0 ns with
    | .inl i => some ((i : Nat), "nouns")
    | .inr ws => match part 3 ws 0 vs with
      | .inl i => some ((i : Nat), "verbs")
      | .inr _ => none
def fault : PV → Option (Int × Str)
  | .tup [.tup ns, .tup vs] => faultB ns vs
  | _ => some (-1, "shape")
def isTp : PV → Bool
  | .tup _ => true
  | _ => false
theorem isi_tp {v : PV} (hv : ldat v = true) : isiV h v .tuple = some (isTp v) := by
  cases v <;> first | rfl | (simp [ldat] at hv)
theorem all2 {a b : Bool} : bi1 h .all [.lst [.bl a, .bl b]] = some (.bl (a && b)) := by cases a <;> cases b <;> rfl
def lens : PV → PV
  | .tup [.tup a, .tup b] => .tup [.int (a.length : Nat), .int (b.length : Nat)]
  | _ => .non
def XL (v : PV) : Nat → List PV → Prop := fun c fs => ∃ i w, fault v = some (i, w) ∧ c = 0 ∧ fs = [.int i, .str w]
theorem XL_dats {v : PV} (c : Nat) (fs : List PV) (h : XL v c fs) : dats fs = true := by
  obtain ⟨i, w, _, _, rfl⟩ := h; rfl
theorem fault_shape {v : PV} (h : ∀ a b, v ≠ .tup [.tup a, .tup b]) : fault v = some ((-1 : Int), ("shape" : Str)) := by
  unfold fault
  split
  · rename_i a b
    exact absurd rfl (h a b)
  · rfl
theorem sp_lex {v : PV} (hv : ldat v = true) : WpX (XL v) (rn (k + 5) 5 [v]) [] fun r _ => fault v = none ∧ r = lens v := by
  refine (run_at (d := F5.d) rfl rfl).mpr ?_
  show WpX (XL v) (evSs (rn (k + 4)) b5 [some v, none, none, none, none]) [] _
  by_cases hs : ∃ a b, v = .tup [.tup a, .tup b]
  · obtain ⟨a, b, rfl⟩ := hs
    have hv' : ldats a = true ∧ ldats b = true := by simpa using hv
    have ef : fault (.tup [.tup a, .tup b]) = faultB a b := rfl
    unfold faultB at ef
    refine S_cut 2 ?_
    refine Wp_mono (Φ := fun f h => f = .nx [some (.tup [.tup a, .tup b]), none, some (.tup a), some (.tup b), none] ∧ h = []) ?_ ?_
    · simp [b5]
      refine Wp_of (c_tpN hv) ?_
      simp [all2]
    rintro f h ⟨rfl, rfl⟩
    show WpX (XL _) (evSs _ (b5.drop 2) _) _ _
    by_cases d1 : (1 : Int) ≤ (a.length : Nat)
    · by_cases d2 : ((a.length : Nat) : Int) ≤ 5
      · have c1 : ¬ (a.length = 0 ∨ 5 < a.length) := by omega
        rw [if_neg c1] at ef
        by_cases d3 : (2 : Int) < (b.length : Nat)
        · rw [if_pos (by omega)] at ef
          simp [b5, d1, d2, d3]
          exact ⟨⟨rfl, rfl⟩, -1, "verbs", ef, rfl, rfl⟩
        · rw [if_neg (by omega)] at ef
          simp [b5, d1, d2, d3]
          have h1 : ([] : List Str).length + 2 * a.length ≤ 1000 := by simp; omega
          refine Wx_imp (sp_parts (m := 2) (w := "nouns") (ws := []) hv'.1 (by decide) h1) ?_ ?_
          · rintro r h' ⟨ws1, e1, rfl, rfl, hz1⟩
            simp at hz1
            have h2 : ws1.length + 3 * b.length ≤ 1000 := by omega
            refine Wx_imp (sp_parts (m := 3) (w := "verbs") (ws := ws1) hv'.2 (by decide) h2) ?_ ?_
            · rintro r h' ⟨ws2, e2, rfl, rfl, hz2⟩
              refine ⟨?_, rfl⟩
              rw [ef, e1]
              simp only
              rw [e2]
            · rintro c fs ⟨i, e2, rfl, rfl⟩
              refine ⟨i, "verbs", ?_, rfl, rfl⟩
              rw [ef, e1]
              simp only
              rw [e2]
          · rintro c fs ⟨i, e1, rfl, rfl⟩
            refine ⟨i, "nouns", ?_, rfl, rfl⟩
            rw [ef, e1]
      · rw [if_pos (by omega)] at ef
        simp [b5, d1, d2]
        exact ⟨⟨rfl, rfl⟩, -1, "nouns", ef, rfl, rfl⟩
    · rw [if_pos (by omega)] at ef
      simp [b5, d1]
      exact ⟨⟨rfl, rfl⟩, -1, "nouns", ef, rfl, rfl⟩
  · have ef := fault_shape (v := v) fun a b e => hs ⟨a, b, e⟩
    have fin : (flt (.int (-1)) = true ∧ flt (.str "shape") = true) ∧ XL v 0 [.int (-1), .str "shape"] := ⟨⟨rfl, rfl⟩, -1, "shape", ef, rfl, rfl⟩
    simp [b5]
    refine Wp_of (c_tpN hv) ?_
    cases v with
    | tup l =>
      match l with
      | [] => simp; exact fin
      | [a] => simp; exact fin
      | a :: b :: c :: l =>
        have : ¬ ((l.length : Int) + 1 + 1 + 1 = 2) := by omega
        simp [this]
        exact fin
      | [x, y] =>
        have hv' : ldat x = true ∧ ldat y = true := by simpa using hv
        simp [isi_tp hv'.1, isi_tp hv'.2, all2]
        have : (isTp x && isTp y) = false := by
          rw [Bool.eq_false_iff]
          intro q
          rw [Bool.and_eq_true] at q
          match x, y, q with
          | .tup a, .tup b, _ => exact hs ⟨a, b, rfl⟩
        simp at this
        by_cases c2 : isTp x = true
        · simp [c2, this c2]
          exact fin
        · simp [c2]
          exact fin
    | _ => first | (simp [ldat] at hv; done) | (simp; exact fin)
end Z

namespace Z
open PySem Y
variable {k : Nat} {h : Hh}
theorem lens_imm (v : PV) : imm (lens v) = true := by unfold lens; split <;> rfl
theorem x_lex {v : PV} (hv : ldat v = true) : WpX (XL v) (callM (rn (k + 5)) false 5 [v]) h fun r h' => h' = h ∧ fault v = none ∧ r = lens v :=
  Wx_callP (by simp [imm_ldat v hv]) XL_dats (Wp_mono (sp_lex hv) fun r h' ⟨e1, e2⟩ => ⟨by rw [e2]; exact lens_imm v, rfl, e1, e2⟩)
/-- what is heard -/
def hw (v : PV) : PV := match wrg v with
  | none => .tup [.str "told", .int (lenI v)]
  | some i => .tup [.str "word", .int i]
def hx (v : PV) : PV := match fault v with
  | none => .tup [.str "told", lens v]
  | some (i, w) => .tup [.str "lexicon", .int i, .str w]
theorem hw_imm (v : PV) : imm (hw v) = true := by unfold hw; split <;> rfl
theorem hx_imm (v : PV) : imm (hx v) = true := by
  unfold hx
  split
  · simp [imm, imms, lens_imm]
  · rfl
theorem c_heardW {v : PV} (hv : ldat v = true) : callM (rn (k + 2)) false 13 [.str "word", v] h = .ok (hw v) h := by
  have main : Wp (rn (k + 2) 13 [.str "word", v]) [] fun r _ => r = hw v := by
    refine (run_at (d := F13.d) rfl rfl).mpr ?_
    show WpX noX (evSs (rn (k + 1)) b13 [some (.str "word"), some v, none]) [] _
    unfold b13
    refine S_cons.mpr ?_
    refine Wx_try (Xb := XW v) ?_ ?_
    · simp
      refine Wp_mono (x_word hv) ?_
      rintro r h' ⟨rfl, e, rfl⟩
      simp [hw, e]
    · rintro c fs h' ⟨i, e, rfl, rfl⟩
      simp [hsM, hw, e, hbV, List.lookup, heV]
      exact ⟨rfl, rfl⟩
  obtain ⟨r, h', e, rfl⟩ := Wp_ok main
  exact callP_imm' (by simp [imm_ldat _ hv]) e (hw_imm v)
theorem c_heardX {v : PV} (hv : ldat v = true) : callM (rn (k + 6)) false 13 [.str "lexicon", v] h = .ok (hx v) h := by
  have main : Wp (rn (k + 6) 13 [.str "lexicon", v]) [] fun r _ => r = hx v := by
    refine (run_at (d := F13.d) rfl rfl).mpr ?_
    have nw : (Str.ofString "lexicon" == Str.ofString "word") = false := by decide +kernel
    show WpX noX (evSs (rn (k + 5)) b13 [some (.str "lexicon"), some v, none]) [] _
    unfold b13
    refine S_cons.mpr ?_
    refine Wx_try (Xb := XL v) ?_ ?_
    · simp [nw]
      refine Wp_mono (x_lex hv) ?_
      rintro r h' ⟨rfl, e, rfl⟩
      simp [hx, e]
    · rintro c fs h' ⟨i, w, e, rfl, rfl⟩
      simp [hsM, hx, e, hbV, List.lookup, heV]
      exact ⟨⟨rfl, rfl⟩, rfl⟩
  obtain ⟨r, h', e, rfl⟩ := Wp_ok main
  exact callP_imm' (by simp [imm_ldat _ hv]) e (hx_imm v)
/-! the law's judgement -/
def optF : Option (Int × Str) → PV
  | none => .non
  | some (i, w) => .tup [.int i, .str w]
theorem in_ref {z : Str} {ws : List Str} {i : Nat} (e : h[i]? = some (.lst (ws.map .str))) : cmpV h .inn (.str z) (.ref i) = some (decide (z ∈ ws)) := by
  show (match dctOf h (.ref i) with
    | some (ks, vs) => if isKey (.str z) then some (dget (.str z) ks vs).isSome else none
    | none => match seqOf h (.ref i) with
      | some l => if (flat (.str z) && l.all flat) || (shp 20 (.str z) && l.all (shp 20)) then some (l.any fun y => eqv y (.str z)) else none
      | none => sgnIn (.str z) (.ref i)) = _
  rw [show dctOf h (.ref i) = none by simp [dctOf, e], show seqOf h (.ref i) = some (ws.map .str) by simp [seqOf, e]]
  simp only
  rw [flat_strs, any_strs]
  rfl
theorem wrg_str {x : PV} (e : wrg x = none) : ∃ z, x = .str z := by
  cases x with
  | str z => exact ⟨z, rfl⟩
  | _ => cases e
abbrev fT : List S := [.asg (.nm 6) (.ix (.ix (.var 0) (.var 2)) (.var 5)), .ite (.boo false [.not (.val (.isi (.var 6) .tuple)), .val (.cmp .ne (.bi .len [.var 6]) (.var 3))]) [.ret (.tup [.var 5, .var 4])] [], .for_ (.nm 7) (.seq (.var 6)) [.ite (.boo false [.val (.cmp .notn (.call false 12 [.var 7]) (.non)), .val (.cmp .inn (.var 7) (.var 1))]) [.ret (.tup [.var 5, .var 4])] [], .exp (.mt .append (.var 1) [.var 7])]]
theorem fault_loop {v : PV} {kd m : Nat} {w : Str} {l : List PV} {ws : List Str} {w5 w6 w7 : Option PV} (hk : ∀ h, ixV h v (.int (kd : Nat)) = some (.tup l)) (hl : ldats l = true) (hm : m ≤ 100) (hz : ws.length + m * l.length ≤ 1000) (hn : l.length ≤ 1000) :
    Wp (evS (rn (k + 2)) (.for_ (.nm 5) (.rng1 (.bi .len [.ix (.var 0) (.var 2)])) fT) [some v, some (.ref 0), some (.int (kd : Nat)), some (.int (m : Nat)), some (.str w), w5, w6, w7]) [.lst (ws.map .str)] fun f h' =>
      (∃ i, part m ws 0 l = .inl i ∧ f = .rt (.tup [.int (i : Nat), .str w])) ∨ (∃ (ws' : List Str) (w5 w6 w7 : Option PV), part m ws 0 l = .inr ws' ∧ f = .nx [some v, some (.ref 0), some (.int (kd : Nat)), some (.int (m : Nat)), some (.str w), w5, w6, w7] ∧ h' = [.lst (ws'.map .str)] ∧ ws'.length ≤ ws.length + m * l.length) := by
  have hSZ : SZ = 16777216 := rfl
  simp [hk, rng1_nat (n := l.length) (by omega)]
  refine Wp_forN l.length (fun i e h => ∃ (w5 w6 w7 : Option PV) (ws1 : List Str), e = [some v, some (.ref 0), some (.int (kd : Nat)), some (.int (m : Nat)), some (.str w), w5, w6, w7] ∧ h = [.lst (ws1.map .str)] ∧ part m ws 0 l = part m ws1 i (l.drop i) ∧ ws1.length ≤ ws.length + m * i) (fun _ _ _ _ => rfl) ?_ ?_ _ _ ⟨w5, w6, w7, ws, rfl, rfl, rfl, by omega⟩
  · rintro i e h hi ⟨w5, w6, w7, ws1, rfl, rfl, hp, hs⟩
    have hx : l[i]? = some l[i] := List.getElem?_eq_getElem hi
    have hd : ldat l[i] = true := mem_ldat hl (List.getElem_mem hi)
    rw [drop_at hx] at hp
    have e1 : ∀ h : Hh, ixV h (.tup l) (.int (i : Int)) = some l[i] := fun h => by rw [ixV_tup, atI_nat, hx]
    generalize l[i] = x at hx hd hp e1
    have bad : lot m ws1 x = none → part m ws 0 l = .inl i := fun q => by rw [hp, part, q]
    have hmi : m * (i + 1) ≤ m * l.length := Nat.mul_le_mul_left m hi
    have hmi2 : m * (i + 1) = m * i + m := Nat.mul_succ m i
    cases x with
    | tup fl =>
      by_cases c : fl.length = m
      · have c' : ((fl.length : Nat) : Int) = (m : Nat) := by omega
        have el : lot m ws1 (.tup fl) = addF ws1 fl := if_pos c
        have hfl : ldats fl = true := by simpa using hd
        simp [hk, e1, -ixV_tup, c, c']
        rw [show fl = fl.map id by rw [List.map_id]]
        refine Wp_forM id (fun r e h => ∃ (w7 : Option PV) (ws2 : List Str), e = [some v, some (.ref 0), some (.int (kd : Nat)), some (.int (m : Nat)), some (.str w), some (.int (i : Nat)), some (.tup (fl.map id)), w7] ∧ h = [.lst (ws2.map .str)] ∧ addF ws1 fl = addF ws2 r ∧ ldats r = true ∧ ws2.length + r.length = ws1.length + m) (fun _ _ _ _ => rfl) ?_ ?_ _ _ _ ⟨w7, ws1, rfl, rfl, rfl, hfl, by omega⟩
        · rintro y r e h ⟨w7, ws2, rfl, rfl, ha, hr, hc⟩
          have hr' : ldat y = true ∧ ldats r = true := by simpa using hr
          have hc' : ws2.length + (r.length + 1) = ws1.length + m := hc
          simp
          refine Wp_of (c_wrong hr'.1) ?_
          cases q : wrg y with
          | some j =>
            have : addF ws2 (y :: r) = none := by
              cases y with
              | str z => exact if_neg (by rw [q]; simp)
              | _ => rfl
            simp [optI]
            exact ⟨i, bad (by rw [el, ha, this]), rfl⟩
          | none =>
            obtain ⟨z, rfl⟩ := wrg_str q
            have hin := in_ref (h := [.lst (ws2.map .str)]) (z := z) (ws := ws2) (i := 0) rfl
            simp [optI, hin]
            by_cases cz : z ∈ ws2
            · have : addF ws2 (.str z :: r) = none := if_neg (by simp [cz])
              simp [cz]
              exact ⟨i, bad (by rw [el, ha, this]), rfl⟩
            · have e3 : addF ws2 (.str z :: r) = addF (ws2 ++ [z]) r := if_pos ⟨q, cz⟩
              simp [cz]
              refine ⟨by omega, ws2 ++ [z], by simp, by rw [ha, e3], hr'.2, by simp; omega⟩
        · rintro e h ⟨w7, ws2, rfl, rfl, ha, _, hc⟩
          simp
          refine ⟨ws2, rfl, ?_, ?_⟩
          · rw [hp, part, el, ha]
            rfl
          · simp at hc
            omega
      · have c' : ¬ ((fl.length : Nat) : Int) = (m : Nat) := by omega
        have el : lot m ws1 (.tup fl) = none := if_neg c
        simp [hk, e1, -ixV_tup, c, c']
        exact ⟨i, bad el, rfl⟩
    | _ =>
      first
        | (simp [ldat] at hd; done)
        | (simp [hk, e1, -ixV_tup]
           exact ⟨i, bad rfl, rfl⟩)
  · rintro e h ⟨w5, w6, w7, ws1, rfl, rfl, hp, hs⟩
    simp [part] at hp
    exact .inr ⟨ws1, hp, ⟨w5, w6, w7, rfl⟩, rfl, hs⟩
theorem optF_imm (o : Option (Int × Str)) : imm (optF o) = true := by rcases o with _ | ⟨i, w⟩ <;> rfl
theorem c_fault {v : PV} (hv : ldat v = true) : callM (rn (k + 3)) false 15 [v] h = .ok (optF (fault v)) h := by
  have main : Wp (rn (k + 3) 15 [v]) [] fun r _ => r = optF (fault v) := by
    refine (run_at (d := F15.d) rfl rfl).mpr ?_
    show WpX noX (evSs (rn (k + 2)) b15 [some v, none, none, none, none, none, none, none]) [] _
    by_cases hs : ∃ a b, v = .tup [.tup a, .tup b]
    · obtain ⟨a, b, rfl⟩ := hs
      have hv' : ldats a = true ∧ ldats b = true := by simpa using hv
      have ef : fault (.tup [.tup a, .tup b]) = faultB a b := rfl
      unfold faultB at ef
      by_cases c1 : a.length = 0 ∨ 5 < a.length
      · rw [if_pos c1] at ef
        by_cases d1 : (1 : Int) ≤ (a.length : Nat)
        · have d2 : ¬ ((a.length : Nat) : Int) ≤ 5 := by omega
          simp [b15, d1, d2, ef, optF]
        · simp [b15, d1, ef, optF]
      · rw [if_neg c1] at ef
        have d1 : (1 : Int) ≤ (a.length : Nat) := by omega
        have d2 : ((a.length : Nat) : Int) ≤ 5 := by omega
        by_cases c3 : 2 < b.length
        · rw [if_pos c3] at ef
          have d3 : (2 : Int) < (b.length : Nat) := by omega
          simp [b15, d1, d2, d3, ef, optF]
        · rw [if_neg c3] at ef
          have d3 : ¬ (2 : Int) < (b.length : Nat) := by omega
          refine S_cut 4 ?_
          refine Wp_mono (Φ := fun f h => f = .nx [some (.tup [.tup a, .tup b]), some (.ref 0), none, none, none, none, none, none] ∧ h = [.lst []]) ?_ ?_
          · simp [b15, d1, d2, d3]
          rintro f h ⟨rfl, rfl⟩
          have k0 : ∀ h : Hh, ixV h (.tup [.tup a, .tup b]) (.int ((0 : Nat) : Int)) = some (.tup a) := fun h => rfl
          have k1 : ∀ h : Hh, ixV h (.tup [.tup a, .tup b]) (.int ((1 : Nat) : Int)) = some (.tup b) := fun h => rfl
          show WpX noX (evSs _ (b15.drop 4) _) _ _
          simp only [b15, List.drop_succ_cons, List.drop_zero]
          refine S_cons.mpr ?_
          refine S_for.mpr ?_
          simp
          refine Wp_forG_cons.mpr ⟨rfl, ?_⟩
          simp [-S_for]
          have L0 := fault_loop (k := k) (v := .tup [.tup a, .tup b]) (kd := 0) (m := 2) (w := "nouns") (l := a) (ws := []) (w5 := none) (w6 := none) (w7 := none) k0 hv'.1 (by decide) (by simp; omega) (by omega)
          refine Wp_mono L0 ?_
          rintro f h (⟨i, e, rfl⟩ | ⟨ws1, w5, w6, w7, e, rfl, rfl, hz⟩)
          · simp [ef, e, optF]
          simp at hz
          simp
          refine Wp_forG_cons.mpr ⟨rfl, ?_⟩
          simp [-S_for]
          have L1 := fault_loop (k := k) (v := .tup [.tup a, .tup b]) (kd := 1) (m := 3) (w := "verbs") (l := b) (ws := ws1) (w5 := w5) (w6 := w6) (w7 := w7) k1 hv'.2 (by decide) (by omega) (by omega)
          refine Wp_mono L1 ?_
          rintro f h (⟨i, e', rfl⟩ | ⟨ws2, w5, w6, w7, e', rfl, rfl, hz⟩)
          · simp [ef, e, e', optF]
          simp
          refine Wp_forG_nil.mpr ⟨rfl, ?_⟩
          simp [ef, e, e', optF]
    · have ef := fault_shape (v := v) fun a b e => hs ⟨a, b, e⟩
      cases v with
      | tup l =>
        match l with
        | [] => simp [b15, ef, optF]
        | [a] => simp [b15, ef, optF]
        | a :: b :: c :: l =>
          have : ¬ ((l.length : Int) + 1 + 1 + 1 = 2) := by omega
          simp [b15, this, ef, optF]
        | [x, y] =>
          have hv' : ldat x = true ∧ ldat y = true := by simpa using hv
          simp [b15, isi_tp hv'.1, isi_tp hv'.2]
          by_cases c2 : isTp x = true
          · by_cases c3 : isTp y = true
            · match x, y, c2, c3 with
              | .tup a, .tup b, _, _ => exact absurd ⟨a, b, rfl⟩ hs
            · simp [c2, c3, ef, optF]
          · simp [c2, ef, optF]
      | _ => first | (simp [ldat] at hv; done) | (simp [b15, ef, optF])
  obtain ⟨r, h', e, rfl⟩ := Wp_ok main
  exact callP_imm' (by simp [imm_ldat _ hv]) e (optF_imm _)
end Z

namespace Z
open PySem Y
variable {k : Nat} {h : Hh}
/-! texts, by their lengths -/
theorem add_len (a b : Str) : (a ++ b).length = a.length + b.length := by
  show (a.cps ++ b.cps).size = _
  rw [Array.size_append]
  rfl
theorem add_strZ {a b : Str} (hh : a.length + b.length ≤ 1000) : op2 h .add (.str a) (.str b) = some (.str (a ++ b)) := by
  have hz : SZ = 16777216 := rfl
  exact if_pos (by omega)
theorem add_ex {a b : Str} {n m : Nat} (ha : a.length ≤ n) (hb : b.length ≤ m) (hnm : n + m ≤ 1000) : ∃ z : Str, (∀ h, op2 h .add (.str a) (.str b) = some (.str z)) ∧ z.length ≤ n + m ∧ a.length ≤ z.length ∧ b.length ≤ z.length ∧ z = a ++ b := by
  have hz : SZ = 16777216 := rfl
  exact ⟨a ++ b, fun h => if_pos (by omega), by rw [add_len]; omega, by rw [add_len]; omega, by rw [add_len]; omega, rfl⟩
theorem sl_ex {z : Str} {n : Nat} (hz : z.length ≤ n) (hn : n ≤ 1000) (lo hi : Option Int) : ∃ y : Str, (∀ h, slV h (.str z) lo hi = some (.str y)) ∧ y.length ≤ n := by
  have hS : SZ = 16777216 := rfl
  refine ⟨_, fun h => if_pos (by omega), ?_⟩
  show (List.toArray _).size ≤ n
  rw [List.size_toArray, List.length_take, List.length_drop]
  have : z.cps.toList.length = z.length := len_cps
  omega
theorem join_len (a : Str) (ys : List Str) : (Txt.join a ys).length ≤ (ys.map (·.length)).sum + ys.length * a.length := by
  have key : ∀ (r : List Str) (acc : Array Nat), (r.foldl (fun acc p => acc ++ a.cps ++ p.cps) acc).size = acc.size + ((r.map (·.length)).sum + r.length * a.length) := by
    intro r
    induction r with
    | nil => intro acc; simp
    | cons x r ih =>
      intro acc
      rw [List.foldl_cons, ih]
      simp only [Array.size_append, List.map_cons, List.sum_cons, List.length_cons, Nat.add_mul, Str.length]
      omega
  show ((ys.drop 1).foldl (fun acc p => acc ++ a.cps ++ p.cps) (ys.headD Str.empty).cps).size ≤ _
  cases ys with
  | nil => simp [Str.empty]
  | cons x r =>
    rw [key]
    simp only [List.drop_succ_cons, List.drop_zero, List.headD_cons, List.map_cons, List.sum_cons, List.length_cons, Nat.add_mul, Str.length]
    omega
theorem strsOf_strs : ∀ (l : List Str), strsOf (l.map .str) = some l
  | [] => rfl
  | x :: l => by
    show (strsOf (l.map .str)).map (x :: ·) = _
    rw [strsOf_strs l]; rfl
theorem sum_ones {l : List Str} (hl : ∀ z ∈ l, z.length = 1) : (l.map (·.length)).sum = l.length := by
  induction l with
  | nil => rfl
  | cons x l ih =>
    rw [List.map_cons, List.sum_cons, ih fun z m => hl z (List.mem_cons_of_mem _ m), hl x (by simp), List.length_cons]
    omega
theorem ix_lit {z : Str} {n i : Nat} (hz : z.length = n) (hn : n ≤ 1000) (hi : i < n) : ∃ y : Str, (∀ h, ixV h (.str z) (.int (i : Nat)) = some (.str y)) ∧ y.length = 1 ∧ ∃ x ∈ z.cps.toList, y = ⟨#[x]⟩ :=
  ⟨⟨#[z.cps.toList[i]'(by rw [len_cps]; omega)]⟩, fun h => ix_str (by omega) (by rw [len_cps]; omega), rfl, _, List.getElem_mem _, rfl⟩
/-- a base beginning with c: letters, no v or w behind the first -/
def BaseOk (c : Nat) (z : Str) : Prop := lett c = true ∧ z ∉ noS ∧ ∃ r : List Nat, z.cps.toList = c :: r ∧ r.length ≤ 9 ∧ ∀ x ∈ r, lett x = true ∧ x ≠ 118 ∧ x ≠ 119
theorem app_list (a b : Str) : (a ++ b).cps.toList = a.cps.toList ++ b.cps.toList := by
  show (a.cps ++ b.cps).toList = _
  simp
theorem join_list : ∀ (xs : List Nat), (Txt.join (Str.ofString "") (xs.map fun x => (⟨#[x]⟩ : Str))).cps.toList = xs := by
  intro xs
  have key : ∀ (r : List Nat) (acc : Array Nat), ((r.map fun x => (⟨#[x]⟩ : Str)).foldl (fun acc p => acc ++ (Str.ofString "").cps ++ p.cps) acc).toList = acc.toList ++ r := by
    intro r
    induction r with
    | nil => intro acc; simp
    | cons x r ih =>
      intro acc
      have e0 : (Str.ofString "").cps.toList = [] := by decide +kernel
      rw [List.map_cons, List.foldl_cons, ih]
      simp [e0]
  show (((xs.map fun x => (⟨#[x]⟩ : Str)).drop 1).foldl (fun acc p => acc ++ (Str.ofString "").cps ++ p.cps) ((xs.map fun x => (⟨#[x]⟩ : Str)).headD Str.empty).cps).toList = _
  cases xs with
  | nil => simp [Str.empty]
  | cons x r => rw [List.map_cons, List.drop_succ_cons, List.drop_zero, List.headD_cons, key]; rfl
theorem vow_ok : ∀ x ∈ (Str.ofString "aeiouzbstnrlm").cps.toList, lett x = true ∧ x ≠ 118 ∧ x ≠ 119 := by decide +kernel
theorem noq_ok : ∀ z ∈ noS, (z ++ Str.ofString "q") ∉ noS := by decide +kernel
theorem noS_9 : ∀ z ∈ noS, z.length ≤ 9 := by decide +kernel
theorem sp_wordG {c : Nat} {S : List Nat} {f : Str} (hf : f.length = 1) (C : Ml c S h) :
    Wp (rn (k + 3) 14 [.ref c, .str f]) h fun v h' => ∃ z : Str, v = .str z ∧ 1 ≤ z.length ∧ z.length ≤ 11 ∧ (∀ c0, f = ⟨#[c0]⟩ → lett c0 = true → BaseOk c0 z) ∧ ∃ S', Ml c S' h' ∧ Step S h S' h' := by
  have hSZ : SZ = 16777216 := rfl
  refine (run_at (d := F14.d) rfl rfl).mpr ?_
  show Wp (evSs (rn (k + 2)) b14 [some (.ref c), some (.str f), none, none, none]) h _
  refine S_cut 1 ?_
  refine Wp_mono (Φ := fun e h' => ∃ n : Nat, e = .nx [some (.ref c), some (.str f), some (.int (n : Nat)), none, none] ∧ 1 ≤ n ∧ n ≤ 10 ∧ ∃ S', Ml c S' h' ∧ Step S h S' h') ?_ ?_
  · simp [b14]
    refine Wp_mono (sp_spoon (k := k) (p := 1) (m := 8) (by simp [pls]) (by decide) (by decide) C) ?_
    rintro v h1 ⟨z, rfl, hz, S1, C1, st1⟩
    have : z = 0 ∨ z = 1 ∨ z = 2 ∨ z = 3 ∨ z = 4 ∨ z = 5 ∨ z = 6 ∨ z = 7 := by omega
    rcases this with rfl | rfl | rfl | rfl | rfl | rfl | rfl | rfl
    · exact ⟨1, rfl, by decide, by decide, S1, C1, st1⟩
    · exact ⟨2, rfl, by decide, by decide, S1, C1, st1⟩
    · exact ⟨3, rfl, by decide, by decide, S1, C1, st1⟩
    · exact ⟨4, rfl, by decide, by decide, S1, C1, st1⟩
    · exact ⟨5, rfl, by decide, by decide, S1, C1, st1⟩
    · exact ⟨8, rfl, by decide, by decide, S1, C1, st1⟩
    · exact ⟨9, rfl, by decide, by decide, S1, C1, st1⟩
    · exact ⟨10, rfl, by decide, by decide, S1, C1, st1⟩
  · rintro e h1 ⟨n, rfl, hn1, hn2, S1, C1, st1⟩
    have lt : (Str.ofString "aeiouzbstnrlm").length = 13 := by decide +kernel
    show Wp (evSs _ (b14.drop 1) _) _ _
    have en : ((n : Nat) : Int) - 1 = ((n - 1 : Nat) : Int) := by omega
    simp [b14, en, rng1_nat (n := n - 1) (by omega)]
    rw [rangeL0_map]
    refine Wp_mapI (Xc := noX) (fun i : Nat => PV.int i) (fun r ys h' => ∃ (xs : List Nat) (S' : List Nat), ys = xs.map (fun x => PV.str ⟨#[x]⟩) ∧ (∀ x ∈ xs, x ∈ (Str.ofString "aeiouzbstnrlm").cps.toList) ∧ xs.length + r.length = n - 1 ∧ Ml c S' h' ∧ Step S h S' h') (fun _ _ _ _ => rfl) ?_ ?_ _ _ ⟨[], S1, rfl, by simp, by simp, C1, st1⟩
    · rintro i r ys h' ⟨xs, S2, rfl, hz, hc, C2, st2⟩
      simp
      refine Wp_mono (sp_bean (k := k + 1) (m := 13) (by decide) (by decide) C2) ?_
      rintro v h3 ⟨j, rfl, hj, S3, C3, st3⟩
      obtain ⟨y, ey, hy, x, hx, rfl⟩ := ix_lit (i := j) lt (by decide) (by omega)
      simp [ey]
      refine ⟨xs ++ [x], by simp, ?_, ?_, S3, C3, st2.trans st3⟩
      · intro z m
        rcases List.mem_append.mp m with m | m
        · simpa using hz z m
        · rw [List.mem_singleton] at m
          rw [m]; simpa using hx
      · simp at hc ⊢
        omega
    · rintro ys h' ⟨xs, S2, rfl, hz, hc, C2, st2⟩
      have l0 : (Str.ofString "").length = 0 := by decide +kernel
      have hj := join_list xs
      have hjl : (Txt.join (Str.ofString "") (xs.map fun x => (⟨#[x]⟩ : Str))).length = xs.length := by
        rw [← len_cps, hj]
      have e1 : (xs.map fun x => PV.str ⟨#[x]⟩) = (xs.map fun x => (⟨#[x]⟩ : Str)).map .str := by simp
      have hsum := sum_ones (l := xs.map fun x => (⟨#[x]⟩ : Str)) (by
        intro z m
        obtain ⟨x, _, rfl⟩ := List.mem_map.mp m
        rfl)
      simp only [List.length_nil, Nat.add_zero] at hc
      rw [e1]
      refine (Wp_join (ys := xs.map fun x => (⟨#[x]⟩ : Str)) (y := .lst ((xs.map fun x => (⟨#[x]⟩ : Str)).map .str)) (show (some ((xs.map fun x => (⟨#[x]⟩ : Str)).map PV.str)).bind strsOf = some (xs.map fun x => (⟨#[x]⟩ : Str)) from strsOf_strs _)).mpr ⟨by rw [l0, hsum, List.length_map]; omega, ?_⟩
      generalize Txt.join (Str.ofString "") (xs.map fun x => (⟨#[x]⟩ : Str)) = J at hj hjl
      obtain ⟨z, ez, hz1, hz2, _, ezz⟩ := add_ex (a := f) (b := J) (n := 1) (m := 9) (by omega) (by omega) (by decide)
      have hzl : ∀ c0, f = ⟨#[c0]⟩ → z.cps.toList = c0 :: xs := by
        rintro c0 rfl
        rw [ezz, app_list, hj]
        rfl
      simp [-add_str, ez]
      refine Wp_of c_none ?_
      simp [-add_str, noL, in_strs]
      by_cases cz : z ∈ noS
      · have lq : (Str.ofString "q").length = 1 := by decide +kernel
        have lq2 : (Str.ofString "q").cps.toList = [113] := by decide +kernel
        have hz9 := noS_9 z cz
        obtain ⟨y, ey, hy1, hy2, _, eyy⟩ := add_ex (a := z) (b := Str.ofString "q") (n := 10) (m := 1) (by omega) (by omega) (by decide)
        simp [cz, -add_str, ey]
        refine ⟨by omega, by omega, ?_, S2, C2, st2⟩
        intro c0 e0 hl0
        refine ⟨hl0, by rw [eyy]; exact noq_ok z cz, xs ++ [113], by rw [eyy, app_list, hzl c0 e0, lq2]; rfl, ?_, ?_⟩
        · have := len_cps (z := z)
          rw [hzl c0 e0] at this
          simp at this ⊢
          omega
        · intro x m
          rcases List.mem_append.mp m with m | m
          · exact vow_ok x (hz x m)
          · rw [List.mem_singleton] at m
            subst m
            decide
      · simp [cz]
        refine ⟨by omega, by omega, ?_, S2, C2, st2⟩
        intro c0 e0 hl0
        exact ⟨hl0, cz, xs, hzl c0 e0, by omega, fun x m => vow_ok x (hz x m)⟩
end Z

namespace Z
open PySem Y
variable {k : Nat} {h : Hh}
abbrev fV (f : List Str) : PV := .tup (f.map .str)
abbrev fVs (fs : List (List Str)) : List PV := fs.map fV
/-- forms, so many, none too long -/
def Fm (m : Nat) (f : List Str) : Prop := f.length = m ∧ ∀ z ∈ f, z.length ≤ 20
structure LexOk (n m : Nat) (ns vs : List (List Str)) : Prop where
  nl : ns.length = n
  vl : vs.length = m
  nf : ∀ f ∈ ns, Fm 2 f
  vf : ∀ f ∈ vs, Fm 3 f
  nd : (ns ++ vs).flatten.Nodup
  ok : ∀ z ∈ (ns ++ vs).flatten, wrg (.str z) = none
abbrev lxV (ns vs : List (List Str)) : PV := .tup [.tup (fVs ns), .tup (fVs vs)]
theorem Fm.ld {m : Nat} {f : List Str} (h : Fm m f) : ldats (f.map PV.str) = true := ldats_map fun z hz => by
  have := h.2 z hz
  simp
  omega
theorem fVs_ld {m : Nat} {fs : List (List Str)} (h : ∀ f ∈ fs, Fm m f) : ldats (fVs fs) = true := ldats_map fun f hf => by simpa using (h f hf).ld
theorem LexOk.ld {n m : Nat} {ns vs : List (List Str)} (L : LexOk n m ns vs) : ldat (lxV ns vs) = true := by
  simp [fVs_ld L.nf, fVs_ld L.vf]
/-- forms of one first letter -/
def GoodF (c : Nat) (f : List Str) : Prop := f.Nodup ∧ ∀ z ∈ f, wrg (.str z) = none ∧ z.cps.toList.head? = some c
theorem word_ok {z : Str} {c : Nat} {r : List Nat} (e : z.cps.toList = c :: r) (hc : lett c = true) (hr : ∀ x ∈ r, lett x = true) (hl : r.length ≤ 9) (hn : z ∉ noS) : wrg (.str z) = none := by
  have hz : z.length = r.length + 1 := by rw [← len_cps, e]; rfl
  show (if z.length = 0 ∨ 10 < z.length ∨ z ∈ noS then some (-1) else (fbL z.cps.toList).map fun i => ((i : Nat) : Int)) = none
  rw [if_neg (by
    rintro (q | q | q)
    · omega
    · omega
    · exact hn q), fbL_none fun j hj => ?_]
  · rfl
  · have : z.cps.toList[j] ∈ c :: r := by rw [← e]; exact List.getElem_mem hj
    rcases List.mem_cons.mp this with q | q
    · rw [q]; exact hc
    · exact hr _ q
theorem base_ok {z : Str} {c : Nat} (h : BaseOk c z) : wrg (.str z) = none ∧ z.cps.toList.head? = some c := by
  obtain ⟨h1, h2, r, e, h3, h4⟩ := h
  exact ⟨word_ok e h1 (fun x m => (h4 x m).1) h3 h2, by rw [e]; rfl⟩
theorem lett_mem {c : Nat} (h : lett c = true) : c ∈ List.range' 97 26 := by
  simp [lett] at h
  simp [List.mem_range']
  exact ⟨c - 97, by omega, by omega⟩
theorem ends_no : ∀ c ∈ List.range' 97 26, ((⟨#[c]⟩ : Str) ++ Str.ofString "vy") ∉ noS ∧ ((⟨#[c]⟩ : Str) ++ Str.ofString "zz") ∉ noS ∧ ((⟨#[c]⟩ : Str) ++ Str.ofString "wort") ∉ noS := by decide +kernel
theorem ne_list {a b : Str} (h : a.cps.toList ≠ b.cps.toList) : a ≠ b := fun e => h (by rw [e])
theorem ne_len {a b : Str} (h : a.length ≠ b.length) : a ≠ b := fun e => h (by rw [e])
abbrev lapB : List S := [.asg (.nm 6) (.mt .pop1 (.var 3) [.call true 8 [.var 0, .bi .len [.var 3]]]), .asg (.nm 7) (.call true 14 [.var 0, .var 6]), .asg (.nm 8) (.ite (.val (.cmp .lt (.bi .len [.var 7]) (.int 9))) (.tup [.str "s", .str "ed"]) (.tup [.str "", .str ""])), .ite (.boo true [.val (.cmp .ne (.ix (.var 8) (.int 0)) (.str "")), .val (.cmp .gt (.call true 8 [.var 0, .int 3]) (.int 0)), .val (.cmp .nin (.bin .add (.var 7) (.str "s")) (.call false 11 [])), .val (.cmp .nin (.bin .add (.var 7) (.str "ed")) (.call false 11 []))]) [.asg (.nm 9) (.tup [.var 7, .bin .add (.var 7) (.str "s"), .bin .add (.var 7) (.str "ed")])] [.asg (.nm 9) (.tup [.bin .add (.var 6) (.str "vy"), .ite (.val (.cmp .gt (.bi .len [.var 7]) (.int 2))) (.var 7) (.bin .add (.var 6) (.str "zz")), .bin .add (.var 6) (.str "wort")])], .asg (.nm 9) (.ite (.val (.cmp .lt (.var 5) (.var 1))) (.sl (.var 9) none (some (.int 2))) (.tup [.ix (.var 9) (.int 2), .ix (.var 9) (.int 0), .ix (.var 9) (.int 1)])), .exp (.mt .append (.var 4) [.var 9])]
/-- three forms out of a base -/
theorem lap_forms {e1 e2 e3 e4 e5 : Option PV} {c : Nat} {S : List Nat} {f1 base : Str} {w8 w9 : Option PV} {c0 : Nat} (hf1 : f1 = ⟨#[c0]⟩) (hB : BaseOk c0 base) (hb1 : 1 ≤ base.length) (hb : base.length ≤ 11) (C : Ml c S h) :
    Wp (evSs (rn (k + 3)) [lapB.getD 2 .pass, lapB.getD 3 .pass] [some (.ref c), e1, e2, e3, e4, e5, some (.str f1), some (.str base), w8, w9]) h fun f h' => ∃ (w8 : Option PV) (fm : List Str), f = .nx [some (.ref c), e1, e2, e3, e4, e5, some (.str f1), some (.str base), w8, some (fV fm)] ∧ Fm 3 fm ∧ GoodF c0 fm ∧ ∃ S', Ml c S' h' ∧ Step S h S' h' := by
  have hSZ : SZ = 16777216 := rfl
  have h1 : f1.length = 1 := by rw [hf1]; rfl
  have hf1l : f1.cps.toList = [c0] := by rw [hf1]
  have hB' := hB
  obtain ⟨hc0, hbn, rb, erb, hrb1, hrb2⟩ := hB'
  have hen := ends_no c0 (lett_mem hc0)
  rw [← hf1] at hen
  have L1 : (Str.ofString "s").cps.toList = [115] := by decide +kernel
  have L2 : (Str.ofString "ed").cps.toList = [101, 100] := by decide +kernel
  have L3 : (Str.ofString "vy").cps.toList = [118, 121] := by decide +kernel
  have L4 : (Str.ofString "zz").cps.toList = [122, 122] := by decide +kernel
  have L5 : (Str.ofString "wort").cps.toList = [119, 111, 114, 116] := by decide +kernel
  have l1 : (Str.ofString "s").length = 1 := by decide +kernel
  have l2 : (Str.ofString "ed").length = 2 := by decide +kernel
  have l3 : (Str.ofString "vy").length = 2 := by decide +kernel
  have l4 : (Str.ofString "zz").length = 2 := by decide +kernel
  have l5 : (Str.ofString "wort").length = 4 := by decide +kernel
  have l6 : (Str.ofString "s" == Str.ofString "") = false := by decide +kernel
  obtain ⟨a1, ea1, ha1, _, _, ee1⟩ := add_ex (a := base) (b := Str.ofString "s") (n := 11) (m := 1) hb (by omega) (by decide)
  obtain ⟨a2, ea2, ha2, _, _, ee2⟩ := add_ex (a := base) (b := Str.ofString "ed") (n := 11) (m := 2) hb (by omega) (by decide)
  obtain ⟨a3, ea3, ha3, _, _, ee3⟩ := add_ex (a := f1) (b := Str.ofString "vy") (n := 1) (m := 2) (by omega) (by omega) (by decide)
  obtain ⟨a4, ea4, ha4, _, _, ee4⟩ := add_ex (a := f1) (b := Str.ofString "zz") (n := 1) (m := 2) (by omega) (by omega) (by decide)
  obtain ⟨a5, ea5, ha5, _, _, ee5⟩ := add_ex (a := f1) (b := Str.ofString "wort") (n := 1) (m := 4) (by omega) (by omega) (by decide)
  have E1 : a1.cps.toList = c0 :: (rb ++ [115]) := by rw [ee1, app_list, erb, L1]; rfl
  have E2 : a2.cps.toList = c0 :: (rb ++ [101, 100]) := by rw [ee2, app_list, erb, L2]; rfl
  have E3 : a3.cps.toList = [c0, 118, 121] := by rw [ee3, app_list, hf1l, L3]; rfl
  have E4 : a4.cps.toList = [c0, 122, 122] := by rw [ee4, app_list, hf1l, L4]; rfl
  have E5 : a5.cps.toList = [c0, 119, 111, 114, 116] := by rw [ee5, app_list, hf1l, L5]; rfl
  have lb : base.length = rb.length + 1 := by rw [← len_cps, erb]; rfl
  have W3 : wrg (.str a3) = none ∧ a3.cps.toList.head? = some c0 := ⟨word_ok E3 hc0 (by decide) (by decide) (by rw [ee3]; exact hen.1), by rw [E3]; rfl⟩
  have W4 : wrg (.str a4) = none ∧ a4.cps.toList.head? = some c0 := ⟨word_ok E4 hc0 (by decide) (by decide) (by rw [ee4]; exact hen.2.1), by rw [E4]; rfl⟩
  have W5 : wrg (.str a5) = none ∧ a5.cps.toList.head? = some c0 := ⟨word_ok E5 hc0 (by decide) (by decide) (by rw [ee5]; exact hen.2.2), by rw [E5]; rfl⟩
  have WB := base_ok hB
  have G1 : 2 < base.length → GoodF c0 [a3, base, a5] := fun q => by
    have n1 : a3 ≠ base := ne_list (by
      rw [E3, erb]
      intro e
      injection e with _ e
      exact (hrb2 118 (by rw [← e]; simp)).2.1 rfl)
    have n2 : base ≠ a5 := ne_list (by
      rw [E5, erb]
      intro e
      injection e with _ e
      exact (hrb2 119 (by rw [e]; simp)).2.2 rfl)
    have n3 : a3 ≠ a5 := ne_list (by rw [E3, E5]; simp)
    exact ⟨by simp [n1, n2, n3], by intro z m; simp at m; rcases m with rfl | rfl | rfl <;> assumption⟩
  have G2 : GoodF c0 [a3, a4, a5] := by
    have n1 : a3 ≠ a4 := ne_list (by rw [E3, E4]; simp)
    have n2 : a4 ≠ a5 := ne_list (by rw [E4, E5]; simp)
    have n3 : a3 ≠ a5 := ne_list (by rw [E3, E5]; simp)
    exact ⟨by simp [n1, n2, n3], by intro z m; simp at m; rcases m with rfl | rfl | rfl <;> assumption⟩
  have G3 : base.length < 9 → a1 ∉ noS → a2 ∉ noS → GoodF c0 [base, a1, a2] := fun q q1 q2 => by
    have W1 : wrg (.str a1) = none ∧ a1.cps.toList.head? = some c0 := ⟨word_ok E1 hc0 (by
      intro x m
      rcases List.mem_append.mp m with m | m
      · exact (hrb2 x m).1
      · rw [List.mem_singleton] at m; subst m; decide) (by simp; omega) q1, by rw [E1]; rfl⟩
    have W2 : wrg (.str a2) = none ∧ a2.cps.toList.head? = some c0 := ⟨word_ok E2 hc0 (by
      intro x m
      rcases List.mem_append.mp m with m | m
      · exact (hrb2 x m).1
      · simp at m; rcases m with rfl | rfl <;> decide) (by simp; omega) q2, by rw [E2]; rfl⟩
    have n1 : base ≠ a1 := ne_len (by rw [ee1, add_len]; omega)
    have n2 : base ≠ a2 := ne_len (by rw [ee2, add_len]; omega)
    have n3 : a1 ≠ a2 := ne_len (by rw [ee1, ee2, add_len, add_len]; omega)
    exact ⟨by simp [n1, n2, n3], by intro z m; simp at m; rcases m with rfl | rfl | rfl <;> assumption⟩
  have bad : ∀ (h' : Hh) (w8 : Option PV), (∃ S', Ml c S' h' ∧ Step S h S' h') → Wp (evSs (rn (k + 3)) [.asg (.nm 9) (.tup [.bin .add (.var 6) (.str "vy"), .ite (.val (.cmp .gt (.bi .len [.var 7]) (.int 2))) (.var 7) (.bin .add (.var 6) (.str "zz")), .bin .add (.var 6) (.str "wort")])] [some (.ref c), e1, e2, e3, e4, e5, some (.str f1), some (.str base), w8, w9]) h' fun f h' => ∃ (w8 : Option PV) (fm : List Str), f = .nx [some (.ref c), e1, e2, e3, e4, e5, some (.str f1), some (.str base), w8, some (fV fm)] ∧ Fm 3 fm ∧ GoodF c0 fm ∧ ∃ S', Ml c S' h' ∧ Step S h S' h' := by
    intro h' w8 hS
    simp [-add_str, ea3, ea4, ea5, len_str (show base.length ≤ 1000 by omega)]
    by_cases q : (2 : Int) < (base.length : Nat)
    · simp [q]
      exact ⟨w8, [a3, base, a5], ⟨rfl, rfl⟩, ⟨rfl, by intro z m; simp at m; rcases m with rfl | rfl | rfl <;> omega⟩, G1 (by omega), hS⟩
    · simp [q]
      exact ⟨w8, [a3, a4, a5], ⟨rfl, rfl⟩, ⟨rfl, by intro z m; simp at m; rcases m with rfl | rfl | rfl <;> omega⟩, G2, hS⟩
  refine S_cut 1 ?_
  refine Wp_mono (Φ := fun f h' => h' = h ∧ f = .nx [some (.ref c), e1, e2, e3, e4, e5, some (.str f1), some (.str base), some (if base.length < 9 then .tup [.str "s", .str "ed"] else .tup [.str "", .str ""]), w9]) ?_ ?_
  · by_cases q : base.length < 9
    · simp [len_str (show base.length ≤ 1000 by omega), q]
      intro q2
      omega
    · simp [len_str (show base.length ≤ 1000 by omega), q]
      intro q2
      omega
  rintro f h' ⟨rfl, rfl⟩
  show Wp (evSs _ [lapB.getD 3 .pass] _) _ _
  refine S_cons.mpr ?_
  refine S_ite.mpr ?_
  refine Wp_mono (Φ := fun (b : Bool) g => (b = true → base.length < 9 ∧ a1 ∉ noS ∧ a2 ∉ noS) ∧ ∃ S', Ml c S' g ∧ Step S h' S' g) ?_ ?_
  · by_cases q : base.length < 9
    · rw [if_pos q]
      simp [l6, -add_str, ea1, ea2]
      refine Wp_mono (sp_bean (k := k + 2) (m := 3) (by decide) (by decide) C) ?_
      rintro v g ⟨z, rfl, hz, S1, C1, st1⟩
      have hs : ∃ S', Ml c S' g ∧ Step S h' S' g := ⟨S1, C1, st1⟩
      by_cases q1 : 0 < z
      · simp [q1]
        refine Wp_of c_none ?_
        simp [noL, nin_strs]
        by_cases q2 : a1 ∈ noS
        · simp [q2]
          exact hs
        · simp [q2]
          refine Wp_of c_none ?_
          simp [noL, nin_strs]
          by_cases q3 : a2 ∈ noS
          · simp [q3]
            exact hs
          · simp [q3, q]
            exact hs
      · simp [q1]
        exact hs
    · rw [if_neg q]
      simp
      exact ⟨S, C, Step.refl⟩
  · rintro b g ⟨hb3, hS⟩
    cases b with
    | true =>
      obtain ⟨q1, q2, q3⟩ := hb3 rfl
      simp [-add_str, ea1, ea2]
      exact ⟨_, [base, a1, a2], ⟨rfl, rfl⟩, ⟨rfl, by intro z m; simp at m; rcases m with rfl | rfl | rfl <;> omega⟩, G3 q1 q2 q3, hS⟩
    | false =>
      have := bad g (some (if base.length < 9 then .tup [.str "s", .str "ed"] else .tup [.str "", .str ""])) hS
      simpa using this
theorem map_erase {α β} (f : α → β) : ∀ (l : List α) (j : Nat), (l.map f).eraseIdx j = (l.eraseIdx j).map f
  | [], j => by simp
  | x :: l, 0 => rfl
  | x :: l, j + 1 => by
    show f x :: (l.map f).eraseIdx j = _
    rw [map_erase f l j]
    rfl
abbrev sg (c : Nat) : Str := ⟨#[c]⟩
def sV (c : Nat) : PV := .str (sg c)
theorem erase_perm : ∀ {l : List Nat} {n : Nat} (h : n < l.length), (l[n] :: l.eraseIdx n).Perm l
  | x :: l, 0, _ => .refl _
  | x :: l, n + 1, h => (List.Perm.swap ..).trans ((erase_perm (l := l) (n := n) (Nat.lt_of_succ_lt_succ h)).cons x)
theorem erase_not {l : List Nat} (n : l.Nodup) {j : Nat} (hj : j < l.length) : l[j] ∉ l.eraseIdx j := by
  have p : (l[j] :: l.eraseIdx j).Perm l := erase_perm hj
  have := p.nodup_iff.mpr n
  exact (List.nodup_cons.mp this).1
/-- what is told so far: words, none beginning with a letter that is left -/
structure Told (cs : List Nat) (fs : List (List Str)) : Prop where
  cn : cs.Nodup
  cl : ∀ c ∈ cs, lett c = true
  fn : fs.flatten.Nodup
  fo : ∀ z ∈ fs.flatten, wrg (.str z) = none ∧ ∀ c ∈ cs, z.cps.toList.head? ≠ some c
theorem Told.next {cs : List Nat} {fs : List (List Str)} {q : List Str} (T : Told cs fs) {j : Nat} (hj : j < cs.length) (g : GoodF cs[j] q) : Told (cs.eraseIdx j) (fs ++ [q]) := by
  have sub : ∀ x ∈ cs.eraseIdx j, x ∈ cs := fun x m => List.mem_of_mem_eraseIdx m
  refine ⟨T.cn.sublist (List.eraseIdx_sublist ..), fun x m => T.cl x (sub x m), ?_, ?_⟩
  · rw [List.flatten_append, List.flatten_cons, List.flatten_nil, List.append_nil, List.nodup_append]
    refine ⟨T.fn, g.1, fun x hx y hy e => ?_⟩
    subst e
    exact (T.fo x hx).2 _ (List.getElem_mem hj) (g.2 x hy).2
  · intro z m
    rw [List.flatten_append, List.flatten_cons, List.flatten_nil, List.append_nil] at m
    rcases List.mem_append.mp m with m | m
    · exact ⟨(T.fo z m).1, fun c mc => (T.fo z m).2 c (sub c mc)⟩
    · refine ⟨(g.2 z m).1, fun c mc e => ?_⟩
      rw [(g.2 z m).2] at e
      injection e with e
      subst e
      exact erase_not T.cn hj mc
theorem GoodF.sub {c : Nat} {f g : List Str} (h : GoodF c f) (s : g.Sublist f) : GoodF c g := ⟨h.1.sublist s, fun z m => h.2 z (s.subset m)⟩
theorem GoodF.perm {c : Nat} {f g : List Str} (h : GoodF c f) (s : g.Perm f) : GoodF c g := ⟨s.nodup_iff.mpr h.1, fun z m => h.2 z (s.mem_iff.mp m)⟩
theorem sp_lexiconG {c n m : Nat} {S : List Nat} (hn : n ≤ 5) (hm : m ≤ 2) (C : Ml c S h) :
    Wp (rn (k + 4) 16 [.ref c, .int (n : Nat), .int (m : Nat)]) h fun v h' => ∃ ns vs, v = lxV ns vs ∧ LexOk n m ns vs ∧ ∃ S', Ml c S' h' ∧ Step S h S' h' := by
  have hSZ : SZ = 16777216 := rfl
  refine (run_at (d := F16.d) rfl rfl).mpr ?_
  show Wp (evSs (rn (k + 3)) b16 [some (.ref c), some (.int (n : Nat)), some (.int (m : Nat)), none, none, none, none, none, none, none]) h _
  obtain ⟨cs0, e0, hl0, T0⟩ : ∃ cs : List Nat, (∀ h, bi1 h .lists [.str "abcdefghijklmnopqrstuvwxyz"] = some (.lst (cs.map sV))) ∧ cs.length = 26 ∧ Told cs [] := by
    have e : (Str.ofString "abcdefghijklmnopqrstuvwxyz").cps.toList = List.range' 97 26 := by decide +kernel
    have e2 : (Str.ofString "abcdefghijklmnopqrstuvwxyz").length ≤ 1000 := by decide +kernel
    refine ⟨List.range' 97 26, fun h => ?_, by simp, ⟨by decide +kernel, by decide +kernel, by simp, by simp⟩⟩
    show (txtL (.str (Str.ofString "abcdefghijklmnopqrstuvwxyz"))).map PV.lst = _
    rw [txt_str e2, e]
    rfl
  refine S_cut 3 ?_
  refine Wp_mono (Φ := fun f h' => ∃ (w5 w6 w7 w8 w9 : Option PV), f = .nx [some (.ref c), some (.int (n : Nat)), some (.int (m : Nat)), some (.ref h.length), some (.ref (h.length + 1)), w5, w6, w7, w8, w9] ∧ ∃ (fs : List (List Str)) (S' : List Nat), Ml c S' h' ∧ Step S h S' h' ∧ At S' h' (h.length + 1) (.lst (fVs fs)) ∧ fs.length = n + m ∧ (∀ i f, fs[i]? = some f → Fm (if i < n then 2 else 3) f) ∧ fs.flatten.Nodup ∧ ∀ z ∈ fs.flatten, wrg (.str z) = none) ?_ ?_
  · have A0 : At S (h ++ [.lst (cs0.map sV), .lst []]) h.length (.lst (cs0.map sV)) := ⟨by simp, fun q => Nat.lt_irrefl _ (C.lt _ q)⟩
    have A1 : At S (h ++ [.lst (cs0.map sV), .lst []]) (h.length + 1) (.lst (fVs [])) := ⟨by simp, fun q => by have := C.lt _ q; omega⟩
    have enm : rng1V (.int (((n : Nat) : Int) + (m : Nat))) = some (rangeL 0 (n + m)) := by
      rw [show ((n : Nat) : Int) + (m : Nat) = ((n + m : Nat) : Int) by omega]
      exact rng1_nat (n := n + m) (by omega)
    simp [b16, e0, enm]
    refine Wp_forN (n + m) (fun i e h' => ∃ (w5 w6 w7 w8 w9 : Option PV), e = [some (.ref c), some (.int (n : Nat)), some (.int (m : Nat)), some (.ref h.length), some (.ref (h.length + 1)), w5, w6, w7, w8, w9] ∧ ∃ (fs : List (List Str)) (cs : List Nat) (S' : List Nat), Ml c S' h' ∧ Step S h S' h' ∧ At S' h' h.length (.lst (cs.map sV)) ∧ At S' h' (h.length + 1) (.lst (fVs fs)) ∧ fs.length = i ∧ cs.length + i = 26 ∧ Told cs fs ∧ ∀ j f, fs[j]? = some f → Fm (if j < n then 2 else 3) f) (fun _ _ _ _ => rfl) ?_ ?_ _ _ ⟨none, none, none, none, none, rfl, [], cs0, S, C.push _, Step.refl.push _, A0, A1, rfl, by omega, T0, by simp⟩
    · rintro i e h1 hi ⟨w5, w6, w7, w8, w9, rfl, fs, cs, S1, C1, st1, B0, B1, hfs, hls, T, hf⟩
      show Wp (evSs (rn (k + 3)) lapB [some (.ref c), some (.int (n : Nat)), some (.int (m : Nat)), some (.ref h.length), some (.ref (h.length + 1)), some (.int (i : Nat)), w6, w7, w8, w9]) h1 _
      refine S_cut 2 ?_
      refine Wp_mono (Φ := fun f h' => ∃ (j : Nat) (hj : j < cs.length) (base : Str) (w8 w9 : Option PV), f = .nx [some (.ref c), some (.int (n : Nat)), some (.int (m : Nat)), some (.ref h.length), some (.ref (h.length + 1)), some (.int (i : Nat)), some (.str (sg cs[j])), some (.str base), w8, w9] ∧ BaseOk cs[j] base ∧ 1 ≤ base.length ∧ base.length ≤ 11 ∧ ∃ (S' : List Nat), Ml c S' h' ∧ Step S h S' h' ∧ At S' h' h.length (.lst ((cs.eraseIdx j).map sV)) ∧ At S' h' (h.length + 1) (.lst (fVs fs))) ?_ ?_
      · simp [B0.get]
        refine Wp_mono (sp_bean (k := k + 2) (m := (cs.length : Nat)) (by omega) (by omega) C1) ?_
        rintro v h2 ⟨j, rfl, hj, S2, C2, st2⟩
        have B0' := B0.step st2
        have B1' := B1.step st2
        have hjl : j < cs.length := by omega
        have ei : L2.ixN cs.length (j : Int) = some j := by
          have := ixN_in (n := cs.length) (z := (j : Int)) (by omega) (by omega)
          simpa using this
        have em : (cs.map sV).eraseIdx j = (cs.eraseIdx j).map sV := map_erase _ _ _
        simp [B0'.get, ei, List.getElem?_eq_getElem hjl, em]
        refine Wp_mono (sp_wordG (k := k) (show (sg cs[j]).length = 1 from rfl) (C2.set B0'.nin _)) ?_
        rintro v h3 ⟨b, rfl, hb1, hb2, hb3, S3, C3, st3⟩
        have E0 := (B0'.set (.lst ((cs.eraseIdx j).map sV))).step st3
        have E1 := (B1'.other (by omega : h.length ≠ h.length + 1) (.lst ((cs.eraseIdx j).map sV))).step st3
        refine ⟨j, hjl, b, ⟨rfl, rfl⟩, hb3 _ rfl (T.cl _ (List.getElem_mem hjl)), hb1, hb2, S3, C3, ?_, E0, E1⟩
        exact ((st1.trans st2).set (Nat.le_refl _) _).trans st3
      · rintro f h2 ⟨j, hjl, base, w8, w9, rfl, hB, hb1, hb2, S2, C2, st2, D0, D1⟩
        show Wp (evSs _ (lapB.drop 2) _) _ _
        refine S_cut 2 ?_
        refine Wp_mono (lap_forms (k := k) (c0 := cs[j]) rfl hB hb1 hb2 C2) ?_
        rintro f h3 ⟨w8, fm, rfl, hfm, hgf, S3, C3, st3⟩
        have D0' := D0.step st3
        have D1' := D1.step st3
        show Wp (evSs _ [lapB.getD 4 .pass, lapB.getD 5 .pass] _) _ _
        obtain ⟨hf3, hf4⟩ := hfm
        match fm, hf3, hf4, hgf with
        | [x, y, z], _, hf4, hgf =>
          have hx := hf4 x (by simp)
          have hy := hf4 y (by simp)
          have hz := hf4 z (by simp)
          have ec : cut [PV.str x, PV.str y, PV.str z] none (some 2) = [PV.str x, PV.str y] := rfl
          have fin : ∀ q : List Str, Fm (if i < n then 2 else 3) q → GoodF cs[j] q → fs.length < SZ ∧ ∃ (fs1 : List (List Str)) (cs1 : List Nat) (S' : List Nat), Ml c S' (h3.set (h.length + 1) (.lst (fVs fs ++ [fV q]))) ∧ Step S h S' (h3.set (h.length + 1) (.lst (fVs fs ++ [fV q]))) ∧ At S' (h3.set (h.length + 1) (.lst (fVs fs ++ [fV q]))) h.length (.lst (cs1.map sV)) ∧ At S' (h3.set (h.length + 1) (.lst (fVs fs ++ [fV q]))) (h.length + 1) (.lst (fVs fs1)) ∧ fs1.length = i + 1 ∧ cs1.length + (i + 1) = 26 ∧ Told cs1 fs1 ∧ ∀ j f, fs1[j]? = some f → Fm (if j < n then 2 else 3) f := fun q hq hgq => by
            have ea : fVs fs ++ [fV q] = fVs (fs ++ [q]) := by simp
            rw [ea]
            refine ⟨by omega, fs ++ [q], cs.eraseIdx j, S3, C3.set D1'.nin _, (st2.trans st3).set (by omega) _, D0'.other (by omega) _, D1'.set _, by simp [hfs], by rw [List.length_eraseIdx_of_lt hjl]; omega, T.next hjl hgq, fun j f e => ?_⟩
            by_cases hj : j < fs.length
            · rw [List.getElem?_append_left hj] at e
              exact hf j f e
            · have hjl : j < (fs ++ [q]).length := (List.getElem?_eq_some_iff.mp e).1
              have hji : j = i := by simp at hjl; omega
              subst hji
              rw [List.getElem?_append_right (by omega), show j - fs.length = 0 by omega] at e
              simp at e
              subst e
              exact hq
          by_cases hin : i < n
          · simp [hin, D1'.get, ec]
            refine fin [x, y] ?_ (hgf.sub (by simp))
            rw [if_pos hin]
            exact ⟨rfl, by intro u m; simp at m; rcases m with rfl | rfl <;> omega⟩
          · simp [hin, D1'.get]
            refine fin [z, x, y] ?_ (hgf.perm ((List.perm_append_comm (l₁ := [z]) (l₂ := [x, y])).trans (List.Perm.refl _)))
            rw [if_neg hin]
            exact ⟨rfl, by intro u m; simp at m; rcases m with rfl | rfl | rfl <;> omega⟩
    · rintro e h1 ⟨w5, w6, w7, w8, w9, rfl, fs, cs, S1, C1, st1, B0, B1, hfs, hls, T, hf⟩
      exact ⟨⟨w5, w6, w7, w8, w9, rfl⟩, fs, S1, C1, st1, B1, hfs, hf, T.fn, fun z f hm hz => (T.fo z (List.mem_flatten.mpr ⟨f, hm, hz⟩)).1⟩
  · rintro f h1 ⟨w5, w6, w7, w8, w9, rfl, fs, S1, C1, st1, B1, hfs, hf, hnd, hok⟩
    show Wp (evSs _ (b16.drop 3) _) _ _
    simp [b16, B1.get]
    have c1 : cut (fVs fs) none (some ((n : Nat) : Int)) = fVs (fs.take n) := by
      rw [cut_take]
      exact List.map_take.symm
    have c2 : cut (fVs fs) (some ((n : Nat) : Int)) none = fVs (fs.drop n) := by
      rw [cut_drop]
      exact List.map_drop.symm
    refine ⟨fs.take n, fs.drop n, ⟨c1, c2⟩, ⟨by rw [List.length_take]; omega, by rw [List.length_drop]; omega, ?_, ?_, by rw [List.take_append_drop]; exact hnd, by rw [List.take_append_drop]; exact hok⟩, S1, C1, st1⟩
    · intro f hm
      obtain ⟨i, hi, rfl⟩ := List.mem_iff_getElem.mp hm
      rw [List.length_take] at hi
      have := hf i _ (List.getElem?_eq_getElem (by omega))
      rw [if_pos (by omega)] at this
      rw [List.getElem_take]
      exact this
    · intro f hm
      obtain ⟨i, hi, rfl⟩ := List.mem_iff_getElem.mp hm
      rw [List.length_drop] at hi
      have := hf (n + i) _ (List.getElem?_eq_getElem (by omega))
      rw [if_neg (by omega)] at this
      rw [List.getElem_drop]
      exact this
end Z

namespace Z
open PySem Y
variable {k : Nat} {h : Hh}
theorem OW_pick {l : List PV} {z : Nat} {Φ : PV → Prop} (hz : z < l.length) (hl : ldats l = true) (H : ∀ o, ldat o = true → Φ o) : OW (l[z]?) Φ := by
  rw [List.getElem?_eq_getElem hz]
  exact (by simpa using H _ (mem_ldat hl (List.getElem_mem hz)))
/-- the first part of a pair is not too long -/
def bd : PV → Bool
  | .tup [.tup a, _] => decide (a.length ≤ 1000)
  | _ => true
@[simp] theorem bd_pair {a : List PV} {y : PV} : bd (.tup [.tup a, y]) = decide (a.length ≤ 1000) := rfl
theorem OW_pick2 {l : List PV} {z : Nat} {Φ : PV → Prop} (hz : z < l.length) (hl : ldats l = true) (hb : l.all bd = true) (H : ∀ o, ldat o = true → bd o = true → Φ o) : OW (l[z]?) Φ := by
  rw [List.getElem?_eq_getElem hz]
  exact (by simpa using H _ (mem_ldat hl (List.getElem_mem hz)) (List.all_eq_true.mp hb _ (List.getElem_mem hz)))
theorem ldats_cut {l : List PV} {lo hi : Option Int} (h : ldats l = true) : ldats (cut l lo hi) = true := ldats_iff.mpr fun y hy => mem_ldat h (List.mem_of_mem_drop (List.mem_of_mem_take hy))
theorem ldat_sh {z : Str} {n : Nat} (h : z.length ≤ n) (hn : n ≤ 1000) : ldat (.str z) = true := by simp; omega
theorem mul_tup {a : List PV} {j : Int} (h1 : a ≠ []) (h2 : 2 ≤ j) (h3 : j ≤ 1000) (h4 : a.length ≤ 1000) : op2 h .mul (.tup a) (.int j) = some (.tup (List.replicate j.toNat a).flatten) := by
  unfold op2
  simp only
  rw [if_pos ⟨h1, h2, h3, h4⟩]
set_option maxHeartbeats 4000000 in
theorem sp_bentG {c n m : Nat} {S : List Nat} {ns vs : List (List Str)} (L : LexOk n m ns vs) (hn0 : 1 ≤ n) (hn : n ≤ 5) (hm : m ≤ 2) (C : Ml c S h) :
    Wp (rn (k + 2) 17 [.ref c, lxV ns vs]) h fun v h' => ldat v = true ∧ bd v = true ∧ ∃ S', Ml c S' h' ∧ Step S h S' h' := by
  have hSZ : SZ = 16777216 := rfl
  have hnl := L.nl
  have hvl := L.vl
  refine (run_at (d := F17.d) rfl rfl).mpr ?_
  show Wp (evSs (rn (k + 1)) b17 [some (.ref c), some (lxV ns vs), none, none, none, none, none, none, none, none, none, none, none, none, none]) h _
  refine S_cut 2 ?_
  refine Wp_mono (Φ := fun f h' => ∃ w a : Nat, w < 9 ∧ a < n ∧ f = .nx [some (.ref c), some (lxV ns vs), none, none, none, some (.tup (fVs ns)), some (.tup (fVs vs)), some (.int (w : Nat)), some (.int (a : Nat)), none, none, none, none, none, none] ∧ ∃ S', Ml c S' h' ∧ Step S h S' h') ?_ ?_
  · simp [b17]
    refine Wp_mono (sp_bean (k := k) (m := 9) (by decide) (by decide) C) ?_
    rintro v h1 ⟨w, rfl, hw, S1, C1, st1⟩
    refine Wp_mono (sp_bean (k := k) (m := (ns.length : Nat)) (by omega) (by omega) C1) ?_
    rintro v h2 ⟨a, rfl, ha, S2, C2, st2⟩
    exact ⟨w, by omega, a, by omega, ⟨rfl, rfl⟩, S2, C2, st1.trans st2⟩
  rintro f h1 ⟨w, a, hw, ha, rfl, S1, C1, st1⟩
  have hal : a < ns.length := by omega
  obtain ⟨f0, f1, hf01⟩ : ∃ f0 f1, ns[a] = [f0, f1] := by
    have := L.nf _ (List.getElem_mem hal)
    match ns[a], this.1 with
    | [x, y], _ => exact ⟨x, y, rfl⟩
  have hff := L.nf _ (List.getElem_mem hal)
  rw [hf01] at hff
  have hf0 : f0.length ≤ 20 := hff.2 f0 (by simp)
  have hf1 : f1.length ≤ 20 := hff.2 f1 (by simp)
  show Wp (evSs _ (b17.drop 2) _) _ _
  refine S_cut 3 ?_
  refine Wp_mono (Φ := fun f h' => ∃ (odd : PV) (oth : Str), ldat odd = true ∧ oth.length ≤ 20 ∧ f = .nx [some (.ref c), some (lxV ns vs), some (.tup [.str f0, .str f1]), some odd, some (.str oth), some (.tup (fVs ns)), some (.tup (fVs vs)), some (.int (w : Nat)), some (.int (a : Nat)), none, none, none, none, none, none] ∧ ∃ S', Ml c S' h' ∧ Step S h S' h') ?_ ?_
  · simp [b17, List.getElem?_eq_getElem hal, hf01]
    refine Wp_mono (sp_bean (k := k) (m := 15) (by decide) (by decide) C1) ?_
    rintro v h2 ⟨z, rfl, hz, S2, C2, st2⟩
    simp
    refine OW_pick (by simp; omega) (by decide +kernel) fun o ho => ?_
    refine Wp_mono (sp_bean (k := k) (m := (ns.length : Nat)) (by omega) (by omega) C2) ?_
    rintro v h3 ⟨y, rfl, hy, S3, C3, st3⟩
    have hyl : y < ns.length := by omega
    simp [List.getElem?_eq_getElem hyl]
    refine Wp_mono (sp_bean (k := k) (m := 2) (by decide) (by decide) C3) ?_
    rintro v h4 ⟨x, rfl, hx, S4, C4, st4⟩
    have hq := L.nf _ (List.getElem_mem hyl)
    have hxl : x < (ns[y]).length := by rw [hq.1]; omega
    simp [List.getElem?_eq_getElem hxl]
    exact ⟨_, ho, _, hq.2 _ (List.getElem_mem hxl), ⟨rfl, rfl⟩, S4, C4, (st1.trans st2).trans (st3.trans st4)⟩
  rintro f h2 ⟨odd, oth, ho, hoth, rfl, S2, C2, st2⟩
  show Wp (evSs _ (b17.drop 5) _) _ _
  have hNs : ldats (fVs ns) = true := fVs_ld L.nf
  have hVs : ldats (fVs vs) = true := fVs_ld L.vf
  have hNl : (fVs ns).length = n := by simpa using hnl
  have hVl : (fVs vs).length = m := by simpa using hvl
  refine S_cut 1 ?_
  refine Wp_mono (Φ := fun f h' => (∃ v, ldat v = true ∧ bd v = true ∧ f = .rt v ∧ ∃ S', Ml c S' h' ∧ Step S h S' h') ∨ ∃ (fresh : PV) (w10 w11 w12 w13 w14 : Option PV), ldat fresh = true ∧ f = .nx [some (.ref c), some (lxV ns vs), some (.tup [.str f0, .str f1]), some odd, some (.str oth), some (.tup (fVs ns)), some (.tup (fVs vs)), some (.int (w : Nat)), some (.int (a : Nat)), some fresh, w10, w11, w12, w13, w14] ∧ ∃ S', Ml c S' h' ∧ Step S h S' h') ?_ ?_
  · have ld0 : ldat (.str f0) = true := ldat_sh hf0 (by decide)
    have ld1 : ldat (.str f1) = true := ldat_sh hf1 (by decide)
    have ldo : ldat (.str oth) = true := ldat_sh hoth (by decide)
    have hw' : w = 0 ∨ w = 1 ∨ w = 2 ∨ (w = 3 ∨ w = 4 ∨ w = 5) ∨ w = 6 ∨ w = 7 ∨ w = 8 := by omega
    have e0 : f0.length ≤ 1000 := by omega
    have e1 : f1.length ≤ 1000 := by omega
    have eo : oth.length ≤ 1000 := by omega
    rcases hw' with rfl | rfl | rfl | hw3 | rfl | rfl | rfl
    · simp [b17]
      refine Wp_mono (sp_bean (k := k) (m := 2) (by decide) (by decide) C2) ?_
      rintro v h3 ⟨z, rfl, hz, S3, C3, st3⟩
      simp
      split
      · exact ⟨_, by simp [e0, ho], rfl, S3, C3, st2.trans st3⟩
      · exact ⟨_, by simp [e1, ho], rfl, S3, C3, st2.trans st3⟩
    · have hc : ldats (cut [PV.str f0, PV.str f1] none (some 1)) = true := ldats_cut (by simp [e0, e1])
      have lx : (Str.ofString "extra").length ≤ 1000 := by decide +kernel
      simp [b17]
      refine ⟨by omega, ?_⟩
      refine Wp_mono (sp_bean (k := k) (m := 7) (by decide) (by decide) C2) ?_
      rintro v h3 ⟨z, rfl, hz, S3, C3, st3⟩
      simp
      exact OW_pick (by simp; omega) (by simp [hc, e0, e1, lx]) fun o ho => ⟨o, ho, rfl, S3, C3, st2.trans st3⟩
    · simp [b17]
      refine Wp_mono (sp_bean (k := k) (m := 2) (by decide) (by decide) C2) ?_
      rintro v h3 ⟨z, rfl, hz, S3, C3, st3⟩
      simp
      split
      · exact ⟨_, by simp [e0], rfl, S3, C3, st2.trans st3⟩
      · refine Wp_mono (sp_bean (k := k) (m := 2) (by decide) (by decide) C3) ?_
        rintro v h4 ⟨y, rfl, hy, S4, C4, st4⟩
        simp
        split
        · exact ⟨_, by simp [e1, eo], rfl, S4, C4, st2.trans (st3.trans st4)⟩
        · exact ⟨_, by simp [e0, eo], rfl, S4, C4, st2.trans (st3.trans st4)⟩
    · by_cases hm0 : 0 < m
      · have hv0 : 0 < vs.length := by omega
        rcases hw3 with rfl | rfl | rfl
        · simp [b17, hv0]
          refine Wp_mono (sp_bean (k := k) (m := (vs.length : Nat)) (by omega) (by omega) C2) ?_
          rintro v h3 ⟨y, rfl, hy, S3, C3, st3⟩
          have hyl : y < vs.length := by omega
          have hq := L.vf _ (List.getElem_mem hyl)
          have hqd : ldats (vs[y].map PV.str) = true := hq.ld
          have hql : (vs[y].map PV.str).length = 3 := by simpa using hq.1
          have hql' : vs[y].length = 3 := hq.1
          simp [List.getElem?_eq_getElem hyl]
          refine Wp_mono (sp_bean (k := k) (m := 3) (by decide) (by decide) C3) ?_
          rintro v h4 ⟨x, rfl, hx, S4, C4, st4⟩
          refine Wp_mono (sp_bean (k := k) (m := (vs.length : Nat)) (by omega) (by omega) C4) ?_
          rintro v h5 ⟨u, rfl, hu, S5, C5, st5⟩
          have hul : u < vs.length := by omega
          have hr := L.vf _ (List.getElem_mem hul)
          simp [List.getElem?_eq_getElem hul]
          refine Wp_mono (sp_bean (k := k) (m := 3) (by decide) (by decide) C5) ?_
          rintro v h6 ⟨t, rfl, ht, S6, C6, st6⟩
          have htl : t < (vs[u]).length := by rw [hr.1]; omega
          have htt := hr.2 _ (List.getElem_mem htl)
          have e3 : (((x : Nat) : Int) + 1) % 3 = ((((x + 1) % 3 : Nat)) : Int) := by omega
          have hxl : (x + 1) % 3 < (vs[y]).length := by rw [hq.1]; omega
          have hxx := hq.2 _ (List.getElem_mem hxl)
          simp [List.getElem?_eq_getElem htl, e3, -Int.natCast_emod, List.getElem?_eq_getElem hxl]
          refine Wp_mono (sp_bean (k := k) (m := 4) (by decide) (by decide) C6) ?_
          rintro v h7 ⟨r, rfl, hr4, S7, C7, st7⟩
          have e20 : vs[u][t].length ≤ 1000 := by omega
          have e21 : vs[y][(x + 1) % 3].length ≤ 1000 := by omega
          simp
          refine OW_pick (by simp; omega) (by simp [ho, eo, e20, e21]) fun more hmore => ?_
          have st9 := (st3.trans st4).trans ((st5.trans st6).trans st7)
          have k1 := cut_len (vs[y].map PV.str) none (some ((x : Nat) : Int))
          have k2 := cut_len (vs[y].map PV.str) (some (((x : Nat) : Int) + 1)) none
          have k3 := cut_len (fVs vs) none (some ((y : Nat) : Int))
          have k4 := cut_len (fVs vs) (some (((y : Nat) : Int) + 1)) none
          have d1 : ldats (cut (vs[y].map PV.str) none (some ((x : Nat) : Int))) = true := ldats_cut hqd
          have d2 : ldats (cut (vs[y].map PV.str) (some (((x : Nat) : Int) + 1)) none) = true := ldats_cut hqd
          have d3 : ldats (cut (fVs vs) none (some ((y : Nat) : Int))) = true := ldats_cut hVs
          have d4 : ldats (cut (fVs vs) (some (((y : Nat) : Int) + 1)) none) = true := ldats_cut hVs
          have d5 : ldats (cut (vs[y].map PV.str) none (some 2)) = true := ldats_cut hqd
          have lm : (Str.ofString "more").length ≤ 1000 := by decide +kernel
          refine ⟨by omega, by omega, by omega, ?_⟩
          refine Wp_mono (sp_bean (k := k) (m := 5) (by decide) (by decide) C7) ?_
          rintro v h8 ⟨q, rfl, hq5, S8, C8, st8⟩
          simp
          refine OW_pick (by simp; omega) (by simp [hmore, d1, d2, d5, hqd, lm]) fun some_ hsome => ?_
          exact ⟨by omega, by omega, _, by simp [hNs, d3, d4, hsome], by simp [bd]; omega, rfl, S8, C8, st2.trans (st9.trans st8)⟩
        · simp [b17, hv0]
          refine Wp_mono (sp_bean (k := k) (m := (vs.length : Nat)) (by omega) (by omega) C2) ?_
          rintro v h3 ⟨y, rfl, hy, S3, C3, st3⟩
          have hyl : y < vs.length := by omega
          have hq := L.vf _ (List.getElem_mem hyl)
          have hqd : ldats (vs[y].map PV.str) = true := hq.ld
          have hql : (vs[y].map PV.str).length = 3 := by simpa using hq.1
          have hql' : vs[y].length = 3 := hq.1
          simp [List.getElem?_eq_getElem hyl]
          refine Wp_mono (sp_bean (k := k) (m := 3) (by decide) (by decide) C3) ?_
          rintro v h4 ⟨x, rfl, hx, S4, C4, st4⟩
          refine Wp_mono (sp_bean (k := k) (m := (vs.length : Nat)) (by omega) (by omega) C4) ?_
          rintro v h5 ⟨u, rfl, hu, S5, C5, st5⟩
          have hul : u < vs.length := by omega
          have hr := L.vf _ (List.getElem_mem hul)
          simp [List.getElem?_eq_getElem hul]
          refine Wp_mono (sp_bean (k := k) (m := 3) (by decide) (by decide) C5) ?_
          rintro v h6 ⟨t, rfl, ht, S6, C6, st6⟩
          have htl : t < (vs[u]).length := by rw [hr.1]; omega
          have htt := hr.2 _ (List.getElem_mem htl)
          have e3 : (((x : Nat) : Int) + 1) % 3 = ((((x + 1) % 3 : Nat)) : Int) := by omega
          have hxl : (x + 1) % 3 < (vs[y]).length := by rw [hq.1]; omega
          have hxx := hq.2 _ (List.getElem_mem hxl)
          simp [List.getElem?_eq_getElem htl, e3, -Int.natCast_emod, List.getElem?_eq_getElem hxl]
          refine Wp_mono (sp_bean (k := k) (m := 4) (by decide) (by decide) C6) ?_
          rintro v h7 ⟨r, rfl, hr4, S7, C7, st7⟩
          have e20 : vs[u][t].length ≤ 1000 := by omega
          have e21 : vs[y][(x + 1) % 3].length ≤ 1000 := by omega
          simp
          refine OW_pick (by simp; omega) (by simp [ho, eo, e20, e21]) fun more hmore => ?_
          have st9 := (st3.trans st4).trans ((st5.trans st6).trans st7)
          have k1 := cut_len (vs[y].map PV.str) none (some ((x : Nat) : Int))
          have k2 := cut_len (vs[y].map PV.str) (some (((x : Nat) : Int) + 1)) none
          have k3 := cut_len (fVs vs) none (some ((y : Nat) : Int))
          have k4 := cut_len (fVs vs) (some (((y : Nat) : Int) + 1)) none
          have d1 : ldats (cut (vs[y].map PV.str) none (some ((x : Nat) : Int))) = true := ldats_cut hqd
          have d2 : ldats (cut (vs[y].map PV.str) (some (((x : Nat) : Int) + 1)) none) = true := ldats_cut hqd
          have d3 : ldats (cut (fVs vs) none (some ((y : Nat) : Int))) = true := ldats_cut hVs
          have d4 : ldats (cut (fVs vs) (some (((y : Nat) : Int) + 1)) none) = true := ldats_cut hVs
          have d5 : ldats (cut (vs[y].map PV.str) none (some 2)) = true := ldats_cut hqd
          have lm : (Str.ofString "more").length ≤ 1000 := by decide +kernel
          exact ⟨by omega, by omega, by omega, by omega, _, by simp [hNs, d1, d2, d3, d4, hmore], by simp [bd]; omega, rfl, S7, C7, st2.trans st9⟩
        · simp [b17, hv0]
          refine Wp_mono (sp_bean (k := k) (m := (vs.length : Nat)) (by omega) (by omega) C2) ?_
          rintro v h3 ⟨y, rfl, hy, S3, C3, st3⟩
          have hyl : y < vs.length := by omega
          have hq := L.vf _ (List.getElem_mem hyl)
          have hqd : ldats (vs[y].map PV.str) = true := hq.ld
          have hql : (vs[y].map PV.str).length = 3 := by simpa using hq.1
          have hql' : vs[y].length = 3 := hq.1
          simp [List.getElem?_eq_getElem hyl]
          refine Wp_mono (sp_bean (k := k) (m := 3) (by decide) (by decide) C3) ?_
          rintro v h4 ⟨x, rfl, hx, S4, C4, st4⟩
          refine Wp_mono (sp_bean (k := k) (m := (vs.length : Nat)) (by omega) (by omega) C4) ?_
          rintro v h5 ⟨u, rfl, hu, S5, C5, st5⟩
          have hul : u < vs.length := by omega
          have hr := L.vf _ (List.getElem_mem hul)
          simp [List.getElem?_eq_getElem hul]
          refine Wp_mono (sp_bean (k := k) (m := 3) (by decide) (by decide) C5) ?_
          rintro v h6 ⟨t, rfl, ht, S6, C6, st6⟩
          have htl : t < (vs[u]).length := by rw [hr.1]; omega
          have htt := hr.2 _ (List.getElem_mem htl)
          have e3 : (((x : Nat) : Int) + 1) % 3 = ((((x + 1) % 3 : Nat)) : Int) := by omega
          have hxl : (x + 1) % 3 < (vs[y]).length := by rw [hq.1]; omega
          have hxx := hq.2 _ (List.getElem_mem hxl)
          simp [List.getElem?_eq_getElem htl, e3, -Int.natCast_emod, List.getElem?_eq_getElem hxl]
          refine Wp_mono (sp_bean (k := k) (m := 4) (by decide) (by decide) C6) ?_
          rintro v h7 ⟨r, rfl, hr4, S7, C7, st7⟩
          have e20 : vs[u][t].length ≤ 1000 := by omega
          have e21 : vs[y][(x + 1) % 3].length ≤ 1000 := by omega
          simp
          refine OW_pick (by simp; omega) (by simp [ho, eo, e20, e21]) fun more hmore => ?_
          have st9 := (st3.trans st4).trans ((st5.trans st6).trans st7)
          have k1 := cut_len (vs[y].map PV.str) none (some ((x : Nat) : Int))
          have k2 := cut_len (vs[y].map PV.str) (some (((x : Nat) : Int) + 1)) none
          have k3 := cut_len (fVs vs) none (some ((y : Nat) : Int))
          have k4 := cut_len (fVs vs) (some (((y : Nat) : Int) + 1)) none
          have d1 : ldats (cut (vs[y].map PV.str) none (some ((x : Nat) : Int))) = true := ldats_cut hqd
          have d2 : ldats (cut (vs[y].map PV.str) (some (((x : Nat) : Int) + 1)) none) = true := ldats_cut hqd
          have d3 : ldats (cut (fVs vs) none (some ((y : Nat) : Int))) = true := ldats_cut hVs
          have d4 : ldats (cut (fVs vs) (some (((y : Nat) : Int) + 1)) none) = true := ldats_cut hVs
          have d5 : ldats (cut (vs[y].map PV.str) none (some 2)) = true := ldats_cut hqd
          have lm : (Str.ofString "more").length ≤ 1000 := by decide +kernel
          exact ⟨by omega, by omega, by omega, by omega, _, by simp [hNs, d1, d2, d3, d4, hmore], by simp [bd]; omega, rfl, S7, C7, st2.trans st9⟩
      · have hv0 : vs.length = 0 := by omega
        rcases hw3 with rfl | rfl | rfl
        · simp [b17, hv0]
          exact ⟨_, by simp [hNs, hVs], by simp [bd]; omega, rfl, S2, C2, st2⟩
        · simp [b17, hv0]
          exact ⟨_, by simp [hNs, hVs], by simp [bd]; omega, rfl, S2, C2, st2⟩
        · simp [b17, hv0]
          exact ⟨_, by simp [hNs, hVs], by simp [bd]; omega, rfl, S2, C2, st2⟩
    · have lx : (Str.ofString "lexicon").length ≤ 1000 := by decide +kernel
      simp [b17]
      refine Wp_mono (sp_bean (k := k) (m := 8) (by decide) (by decide) C2) ?_
      rintro v h3 ⟨z, rfl, hz, S3, C3, st3⟩
      simp
      exact OW_pick2 (by simp; omega) (by simp [hNs, hVs, lx]) (by simp [bd]; omega) fun o ho hb => ⟨o, ho, hb, rfl, S3, C3, st2.trans st3⟩
    · have m5 : ∀ h : Hh, op2 h .mul (.tup [.tup [.str "qj", .str "qk"]]) (.int 5) = some (.tup (List.replicate 5 [PV.tup [.str "qj", .str "qk"]]).flatten) := fun h => mul_tup (by simp) (by decide) (by decide) (by decide)
      obtain ⟨R, m3, hR⟩ : ∃ R, (∀ h : Hh, op2 h .mul (.tup (fVs vs)) (.int 3) = some (.tup R)) ∧ ldats R = true := by
        by_cases c : fVs vs = []
        · rw [c]
          exact ⟨[], fun h => rfl, rfl⟩
        · refine ⟨(List.replicate 3 (fVs vs)).flatten, fun h => mul_tup c (by decide) (by decide) (by omega), ?_⟩
          refine ldats_iff.mpr fun x hx => ?_
          obtain ⟨q, hq, hx⟩ := List.mem_flatten.mp hx
          rw [List.eq_of_mem_replicate hq] at hx
          exact mem_ldat hVs hx
      have lq : ldats [PV.tup [.str "qa", .str "qb", .str "qc"], PV.tup [.str "qd", .str "qe", .str "qf"], PV.tup [.str "qg", .str "qh", .str "qi"]] = true := by decide +kernel
      have lr : ldats ((List.replicate 5 [PV.tup [.str "qj", .str "qk"]]).flatten) = true := by decide +kernel
      have lz : ((List.replicate 5 [PV.tup [PV.str "qj", .str "qk"]]).flatten).length = 5 := rfl
      generalize (List.replicate 5 [PV.tup [PV.str "qj", .str "qk"]]).flatten = R5 at m5 lr lz
      simp [b17, m5, m3]
      refine ⟨by omega, by omega, ?_⟩
      refine Wp_mono (sp_bean (k := k) (m := 4) (by decide) (by decide) C2) ?_
      rintro v h3 ⟨z, rfl, hz, S3, C3, st3⟩
      simp
      exact OW_pick2 (by simp; omega) (by simp [hNs, hVs, lr, hR]; simpa using lq) (by simp [bd]; omega) fun o ho hb => ⟨o, ho, hb, rfl, S3, C3, st2.trans st3⟩
    · simp [b17]
      exact ⟨_, by simp [hNs, hVs], by simp [bd]; omega, rfl, S2, C2, st2⟩
  · rintro f h3 (⟨v, hv, hb, rfl, S3, C3, st3⟩ | ⟨fresh, w10, w11, w12, w13, w14, hf, rfl, S3, C3, st3⟩)
    · exact ⟨hv, hb, S3, C3, st3⟩
    · show Wp (evSs _ (b17.drop 6) _) _ _
      have q1 := cut_len (fVs ns) none (some (a : Int))
      have q2 := cut_len (fVs ns) (some ((a : Int) + 1)) none
      simp [b17]
      exact ⟨by omega, by omega, ⟨⟨ldats_cut hNs, hf, ldats_cut hNs⟩, hVs⟩, by omega, S3, C3, st3⟩
end Z

namespace Z
open PySem Y
variable {k : Nat} {h : Hh}
theorem hw_gdat (v : PV) : gdat (hw v) = true := by unfold hw; split <;> rfl
theorem hw_nodes (v : PV) : nodes (hw v) ≤ 10 := by unfold hw; split <;> simp
theorem c_sameW {v : PV} : callM (rn (k + 1)) false 10 [hw v, hw v] h = .ok (.bl true) h := c_same (hw_gdat v) (by have := hw_nodes v; omega)
theorem ldat_shI {z : Str} {n : Nat} (h : z.length ≤ n) (hn : n ≤ 1000) : ldat (.str z) = true := by simp; omega
theorem noS_len : ∀ z ∈ noS, 1 ≤ z.length ∧ z.length ≤ 10 := by decide +kernel
theorem sp_wordsA {c : Nat} {S : List Nat} (C : Ml c S h) :
    Wp (rn (k + 4) 18 [.ref c]) h fun v h' => v = .bl true ∧ ∃ S', Ml c S' h' ∧ Step S h S' h' := by
  have hSZ : SZ = 16777216 := rfl
  have a26 : (Str.ofString "abcdefghijklmnopqrstuvwxyz").length = 26 := by decide +kernel
  have a10 : (Str.ofString "A0 _Z{`9-.").length = 10 := by decide +kernel
  have b10 : (Str.ofString "abcdefghij").length = 10 := by decide +kernel
  have b11 : (Str.ofString "abcdefghijk").length = 11 := by decide +kernel
  have b1x : (Str.ofString "x").length = 1 := by decide +kernel
  have b1s : (Str.ofString " ").length = 1 := by decide +kernel
  have b1A : (Str.ofString "A").length = 1 := by decide +kernel
  have b1Q : (Str.ofString "Q").length = 1 := by decide +kernel
  refine (run_at (d := F18.d) rfl rfl).mpr ?_
  show Wp (evSs (rn (k + 3)) b18 [some (.ref c), none, none, none, none, none, none, none]) h _
  refine S_cut 4 ?_
  refine Wp_mono (Φ := fun f h' => ∃ (w o q : Str) (a : Nat), 1 ≤ w.length ∧ w.length ≤ 11 ∧ o.length = 1 ∧ 1 ≤ q.length ∧ q.length ≤ 10 ∧ f = .nx [some (.ref c), some (.str w), some (.int (a : Nat)), some (.str o), some (.str q), none, none, none] ∧ ∃ S', Ml c S' h' ∧ Step S h S' h') ?_ ?_
  · simp [b18]
    refine Wp_mono (sp_bean (k := k + 2) (m := 26) (by decide) (by decide) C) ?_
    rintro v h1 ⟨z, rfl, hz, S1, C1, st1⟩
    obtain ⟨f1, ef, hf, _⟩ := ix_lit (i := z) a26 (by decide) (by omega)
    simp [ef]
    refine Wp_mono (sp_wordG (k := k) hf C1) ?_
    rintro v h2 ⟨w, rfl, hw1, hw2, _, S2, C2, st2⟩
    simp [len_str (show w.length ≤ 1000 by omega)]
    refine Wp_mono (sp_bean (k := k + 2) (m := (w.length : Nat)) (by omega) (by omega) C2) ?_
    rintro v h3 ⟨a, rfl, ha, S3, C3, st3⟩
    refine Wp_mono (sp_bean (k := k + 2) (m := 10) (by decide) (by decide) C3) ?_
    rintro v h4 ⟨y, rfl, hy, S4, C4, st4⟩
    obtain ⟨o, eo, ho, _⟩ := ix_lit (i := y) a10 (by decide) (by omega)
    simp [eo]
    refine Wp_of c_none ?_
    refine Wp_mono (sp_bean (k := k + 2) (m := 21) (by decide) (by decide) C4) ?_
    rintro v h5 ⟨x, rfl, hx, S5, C5, st5⟩
    have hl : noS.length = 21 := rfl
    have hxl : x < noS.length := by omega
    have hq := noS_len _ (List.getElem_mem hxl)
    have en : noL[x]? = some (.str noS[x]) := by simp [noL, hxl]
    simp [en]
    exact ⟨w, hw1, hw2, o, ho, _, hq.1, hq.2, ⟨rfl, ⟨a, rfl⟩, rfl, rfl⟩, S5, C5, ((st1.trans st2).trans (st3.trans st4)).trans st5⟩
  rintro f h1 ⟨w, o, q, a, hw1, hw2, ho, hq1, hq2, rfl, S1, C1, st1⟩
  show Wp (evSs _ (b18.drop 4) _) _ _
  -- the texts
  obtain ⟨p1, e1, l1⟩ := sl_ex (z := w) (n := 11) hw2 (by decide) none (some (a : Int))
  obtain ⟨p2, e2, l2⟩ := sl_ex (z := w) (n := 11) hw2 (by decide) (some (a : Int)) none
  obtain ⟨p3, e3, l3⟩ := sl_ex (z := w) (n := 11) hw2 (by decide) (some ((a : Int) + 1)) none
  obtain ⟨p4, e4, l4⟩ := sl_ex (z := w) (n := 11) hw2 (by decide) (some (1 : Int)) none
  obtain ⟨q1, e5, l5⟩ := sl_ex (z := q) (n := 10) hq2 (by decide) none (some (1 : Int))
  obtain ⟨q2, e6, l6⟩ := sl_ex (z := q) (n := 10) hq2 (by decide) (some (1 : Int)) none
  obtain ⟨t1, f1, m1, _⟩ := add_ex (a := p1) (b := o) (n := 11) (m := 1) l1 (by omega) (by decide)
  obtain ⟨t2, f2, m2, _⟩ := add_ex (a := t1) (b := p2) (n := 12) (m := 11) (by omega) l2 (by decide)
  obtain ⟨t3, f3, m3, _⟩ := add_ex (a := t1) (b := p3) (n := 12) (m := 11) (by omega) l3 (by decide)
  obtain ⟨t4, f4, m4, _⟩ := add_ex (a := w) (b := Str.ofString "abcdefghij") (n := 11) (m := 10) hw2 (by omega) (by decide)
  obtain ⟨s5, e7, l7⟩ := sl_ex (z := t4) (n := 21) (by omega) (by decide) none (some (10 : Int))
  obtain ⟨s6, e8, l8⟩ := sl_ex (z := t4) (n := 21) (by omega) (by decide) none (some (11 : Int))
  obtain ⟨t5, f5, m5, _⟩ := add_ex (a := q) (b := Str.ofString "x") (n := 10) (m := 1) hq2 (by omega) (by decide)
  obtain ⟨t6, f6, m6, _⟩ := add_ex (a := q1) (b := Str.ofString "x") (n := 10) (m := 1) l5 (by omega) (by decide)
  obtain ⟨t7, f7, m7, _⟩ := add_ex (a := t6) (b := q2) (n := 11) (m := 10) (by omega) l6 (by decide)
  obtain ⟨t8, f8, m8, _⟩ := add_ex (a := q) (b := Str.ofString " ") (n := 10) (m := 1) hq2 (by omega) (by decide)
  obtain ⟨t9, f9, m9, _⟩ := add_ex (a := Str.ofString "A") (b := q2) (n := 1) (m := 10) (by omega) l6 (by decide)
  obtain ⟨u1, g1, n1, _⟩ := add_ex (a := o) (b := w) (n := 1) (m := 11) (by omega) hw2 (by decide)
  obtain ⟨u2, g2, n2, _⟩ := add_ex (a := u1) (b := o) (n := 12) (m := 1) (by omega) (by omega) (by decide)
  obtain ⟨u3, g3, n3, _⟩ := add_ex (a := Str.ofString "Q") (b := p4) (n := 1) (m := 11) (by omega) l4 (by decide)
  obtain ⟨u4, g4, n4, _⟩ := add_ex (a := u1) (b := Str.ofString "abcdefghijk") (n := 12) (m := 11) (by omega) (by omega) (by decide)
  obtain ⟨u5, e9, l9⟩ := sl_ex (z := u4) (n := 23) (by omega) (by decide) none (some (11 : Int))
  refine S_cut 3 ?_
  refine Wp_mono (Φ := fun f h' => ∃ L : List PV, ldats L = true ∧ f = .nx [some (.ref c), some (.str w), some (.int (a : Nat)), some (.str o), some (.str q), some (.lst L), none, none] ∧ h' = h1) ?_ ?_
  · have lA : (Str.ofString "a").length ≤ 1000 := by decide +kernel
    have l0 : (Str.ofString "").length ≤ 1000 := by decide +kernel
    have k1 := ldat_shI (z := w) hw2 (by decide)
    have k2 := ldat_shI (z := t2) m2 (by decide)
    have k3 := ldat_shI (z := t3) m3 (by decide)
    have k4 := ldat_shI (z := s5) l7 (by decide)
    have k5 := ldat_shI (z := s6) l8 (by decide)
    have k6 := ldat_shI (z := q) hq2 (by decide)
    have k7 := ldat_shI (z := t5) m5 (by decide)
    have k8 := ldat_shI (z := t7) m7 (by decide)
    have k9 := ldat_shI (z := t8) m8 (by decide)
    have k10 := ldat_shI (z := t9) m9 (by decide)
    have k11 := ldat_shI (z := u2) n2 (by decide)
    have k12 := ldat_shI (z := u3) n3 (by decide)
    have k13 := ldat_shI (z := u5) l9 (by decide)
    have k14 := ldat_shI lA (by decide)
    have k15 := ldat_shI l0 (by decide)
    simp [b18, -add_str, e1, e2, e3, e4, e5, e6, e7, e8, e9, f1, f2, f3, f4, f5, f6, f7, f8, f9, g1, g2, g3, g4]
    omega
  · rintro f h2 ⟨L, hL, rfl, rfl⟩
    show Wp (evSs _ (b18.drop 7) _) _ _
    simp [b18]
    rw [show L = L.map id by rw [List.map_id]]
    refine Wp_forM id (fun r e h' => ∃ (w6 w7 : Option PV), e = [some (.ref c), some (.str w), some (.int (a : Nat)), some (.str o), some (.str q), some (.lst (L.map id)), w6, w7] ∧ h' = h2 ∧ ldats r = true) (fun _ _ _ _ => rfl) ?_ ?_ _ _ _ ⟨none, none, rfl, rfl, hL⟩
    · rintro v r e h' ⟨w6, w7, rfl, rfl, hr⟩
      have hr' : ldat v = true ∧ ldats r = true := by simpa using hr
      simp
      refine Wp_of (c_wrong hr'.1) ?_
      refine Wp_of (c_heardW hr'.1) ?_
      cases e : wrg v with
      | none =>
        obtain ⟨z, rfl⟩ := wrg_str e
        have hz : z.length ≤ 1000 := by simpa using hr'.1
        have hq : hw (.str z) = .tup [.str "told", .int (z.length : Nat)] := by simp [hw, e, lenI]
        simp [optI, len_str hz]
        rw [← hq]
        refine Wp_of c_sameW ?_
        simp [hr'.2]
      | some i =>
        have hq : hw v = .tup [.str "word", .int i] := by simp [hw, e]
        simp [optI]
        rw [← hq]
        refine Wp_of c_sameW ?_
        simp [hr'.2]
    · rintro e h' ⟨w6, w7, rfl, rfl, _⟩
      simp
      exact ⟨S1, C1, st1⟩
end Z

namespace Z
open PySem Y
variable {k : Nat} {h : Hh}
theorem part_ok {m : Nat} : ∀ (fs : List (List Str)) (ws : List Str) (i : Nat), (∀ f ∈ fs, f.length = m) → (ws ++ fs.flatten).Nodup → (∀ z ∈ fs.flatten, wrg (.str z) = none) → part m ws i (fVs fs) = .inr (ws ++ fs.flatten)
  | [], ws, i, _, _, _ => by simp [part]
  | f :: fs, ws, i, hl, hn, ho => by
    have hn' : (ws ++ (f ++ fs.flatten)).Nodup := by simpa using hn
    rw [← List.append_assoc] at hn'
    have nf := (List.nodup_append.mp hn').1
    obtain ⟨_, n2, n3⟩ := List.nodup_append.mp nf
    have e : lot m ws (fV f) = some (ws ++ f) := by
      show (if (f.map PV.str).length = m then addF ws (f.map .str) else none) = _
      rw [if_pos (by simpa using hl f (by simp))]
      exact addF_iff.mpr ⟨f, rfl, fun z hz => ho z (by simp [hz]), n2, fun z hz p => n3 z p z hz rfl, rfl⟩
    show (match lot m ws (fV f) with | none => (Sum.inl i : Nat ⊕ List Str) | some ws' => part m ws' (i + 1) (fVs fs)) = _
    rw [e]
    simp only
    rw [part_ok fs (ws ++ f) (i + 1) (fun g hg => hl g (List.mem_cons_of_mem _ hg)) hn' fun z hz => ho z (by
      rw [List.flatten_cons]
      exact List.mem_append.mpr (.inr hz))]
    simp
theorem fault_ok {n m : Nat} {ns vs : List (List Str)} (L : LexOk n m ns vs) (hn0 : 1 ≤ n) (hn : n ≤ 5) (hm : m ≤ 2) : fault (lxV ns vs) = none := by
  show faultB (fVs ns) (fVs vs) = none
  unfold faultB
  have h1 := L.nl
  have h2 := L.vl
  have nd : (ns.flatten ++ vs.flatten).Nodup := by simpa using L.nd
  have ok : ∀ z ∈ ns.flatten ++ vs.flatten, wrg (.str z) = none := fun z hz => L.ok z (by rw [List.flatten_append]; exact hz)
  rw [if_neg (by rw [List.length_map]; omega), if_neg (by rw [List.length_map]; omega), part_ok ns [] 0 (fun f hf => (L.nf f hf).1) (by simpa using (List.nodup_append.mp nd).1) fun z hz => ok z (List.mem_append.mpr (.inl hz))]
  simp only [List.nil_append]
  rw [part_ok vs ns.flatten 0 (fun f hf => (L.vf f hf).1) nd fun z hz => ok z (List.mem_append.mpr (.inr hz))]
abbrev allF (ns vs : List (List Str)) : List Str := ns.flatten ++ vs.flatten
theorem flat_len {m : Nat} : ∀ {fs : List (List Str)}, (∀ f ∈ fs, f.length = m) → fs.flatten.length = m * fs.length
  | [], _ => by simp
  | f :: fs, h => by
    rw [List.flatten_cons, List.length_append, flat_len fun g hg => h g (List.mem_cons_of_mem _ hg), h f (by simp), List.length_cons, Nat.mul_succ]
    omega
theorem LexOk.len {n m : Nat} {ns vs : List (List Str)} (L : LexOk n m ns vs) : (allF ns vs).length = 2 * n + 3 * m := by
  rw [List.length_append, flat_len (m := 2) fun f hf => (L.nf f hf).1, flat_len (m := 3) fun f hf => (L.vf f hf).1, L.nl, L.vl]
theorem c_forms {n m : Nat} {ns vs : List (List Str)} (L : LexOk n m ns vs) (hn : n ≤ 5) (hm : m ≤ 2) : callM (rn (k + 1)) false 6 [lxV ns vs] h = .ok (.tup ((allF ns vs).map .str)) h := by
  have hi := imm_ldat _ L.ld
  have hz := L.len
  have hSZ : SZ = 16777216 := rfl
  have main : Wp (rn (k + 1) 6 [lxV ns vs]) [] fun r _ => r = .tup ((allF ns vs).map .str) := by
    refine (run_at (d := F6.d) rfl rfl).mpr ?_
    show Wp (evSs (rn k) b6 [some (lxV ns vs), none, none, none]) [] _
    have step : ∀ (fs : List (List Str)) (ws : List Str) (w2 w3 : Option PV), ws.length + fs.flatten.length ≤ 1000 →
        Wp (evSs (rn k) [.for_ (.nm 3) (.seq (.var 2)) [.exp (.mt .extend (.var 1) [.var 3])]] [some (lxV ns vs), some (.ref 0), some (.tup (fVs fs)), w3]) [.lst (ws.map .str)] fun f h' => ∃ w3 : Option PV, f = .nx [some (lxV ns vs), some (.ref 0), some (.tup (fVs fs)), w3] ∧ h' = [.lst ((ws ++ fs.flatten).map .str)] := by
      intro fs ws w2 w3 hz
      simp
      refine Wp_forM fV (fun r e h' => ∃ (w3 : Option PV) (us : List Str), e = [some (lxV ns vs), some (.ref 0), some (.tup (fVs fs)), w3] ∧ h' = [.lst (us.map .str)] ∧ us ++ r.flatten = ws ++ fs.flatten) (fun _ _ _ _ => rfl) ?_ ?_ _ _ _ ⟨w3, ws, rfl, rfl, rfl⟩
      · rintro f r e h' ⟨w3, us, rfl, rfl, he⟩
        have hl : us.length + (f.length + r.flatten.length) = ws.length + fs.flatten.length := by
          have := congrArg List.length he
          simpa using this
        simp
        exact ⟨by omega, us ++ f, by simp, by rw [List.append_assoc]; simpa using he⟩
      · rintro e h' ⟨w3, us, rfl, rfl, he⟩
        simp at he
        subst he
        simp
    unfold b6
    refine S_cut 1 ?_
    refine Wp_mono (Φ := fun f h' => f = .nx [some (lxV ns vs), some (.ref 0), none, none] ∧ h' = [.lst (([] : List Str).map .str)]) ?_ ?_
    · simp
    rintro f h' ⟨rfl, rfl⟩
    simp only [List.drop_succ_cons, List.drop_zero]
    refine S_cons.mpr ?_
    refine S_for.mpr ?_
    simp [-S_for]
    have z1 := flat_len (m := 2) fun f hf => (L.nf f hf).1
    have z2 := flat_len (m := 3) fun f hf => (L.vf f hf).1
    have z3 := L.nl
    have z4 := L.vl
    refine Wp_forG_cons.mpr ⟨rfl, ?_⟩
    refine Wp_mono (step ns [] none none (by simp only [List.length_nil]; omega)) ?_
    rintro f h' ⟨w3, rfl, rfl⟩
    refine Wp_forG_cons.mpr ⟨rfl, ?_⟩
    refine Wp_mono (step vs ns.flatten none w3 (by omega)) ?_
    rintro f h' ⟨w3, rfl, rfl⟩
    refine Wp_forG_nil.mpr ⟨rfl, ?_⟩
    simp
  obtain ⟨r, h', e, rfl⟩ := Wp_ok main
  exact callP_imm' (by simp [hi]) e (by simpa [imm] using imms_strs (allF ns vs))
theorem hx_gdat (v : PV) : gdat (hx v) = true := by
  unfold hx
  split
  · unfold lens; split <;> rfl
  · rfl
theorem hx_nodes (v : PV) : nodes (hx v) ≤ 20 := by
  unfold hx
  split
  · unfold lens; split <;> simp
  · simp
theorem c_sameX {v : PV} : callM (rn (k + 1)) false 10 [hx v, hx v] h = .ok (.bl true) h := c_same (hx_gdat v) (by have := hx_nodes v; omega)
theorem strs_gdat (l : List Str) : gdats (l.map .str) = true ∧ nodesL (l.map .str) = l.length := by
  induction l with
  | nil => exact ⟨rfl, rfl⟩
  | cons x l ih =>
    refine ⟨?_, ?_⟩
    · simpa [gdats, gdat] using ih.1
    · have := ih.2
      simp [nodesL, nodes, this]
      omega
theorem list_tup {l : List PV} : bi1 h .list [.tup l] = some (.lst l) := rfl
abbrev lexT : List S := [.asg (.nm 7) (.call true 17 [.var 0, .var 1]), .ite (.boo true [.val (.cmp .eq (.call true 8 [.var 0, .int 3]) (.int 0)), .val (.cmp .notn (.call false 15 [.var 7]) (.non)), .val (.isi (.var 7) .tuple), .val (.cmp .eq (.bi .len [.var 7]) (.int 2)), .val (.isi (.ix (.var 7) (.int 0)) .tuple), .val (.cmp .gt (.bi .len [.ix (.var 7) (.int 0)]) (.int 0))]) [.asg (.nm 7) (.ite (.val (.cmp .eq (.call true 8 [.var 0, .int 2]) (.int 0))) (.tup [.ix (.var 7) (.int 0), .tup [.tup [.str "qq", .str "qq", .str "qz"]]]) (.tup [.bin .add (.tup [.tup [.str "qq", .str "qq"]]) (.sl (.ix (.var 7) (.int 0)) (some (.int 1)) none), .ix (.var 7) (.int 1)]))] [], .asg (.nm 8) (.call false 15 [.var 7]), .asg (.nm 9) (.ite (.val (.cmp .isn (.var 8) (.non))) (.tup [.str "told", .tup [.bi .len [.ix (.var 7) (.int 0)], .bi .len [.ix (.var 7) (.int 1)]]]) (.bin .add (.tup [.str "lexicon"]) (.var 8))), .ite (.not (.val (.call false 10 [.call false 13 [.str "lexicon", .var 7], .var 9]))) [.ret (.bl false)] []]
theorem sp_lexA {c : Nat} {S : List Nat} (C : Ml c S h) :
    Wp (rn (k + 7) 19 [.ref c]) h fun v h' => v = .bl true ∧ ∃ S', Ml c S' h' ∧ Step S h S' h' := by
  have hSZ : SZ = 16777216 := rfl
  refine (run_at (d := F19.d) rfl rfl).mpr ?_
  show Wp (evSs (rn (k + 6)) b19 [some (.ref c), none, none, none, none, none, none, none, none, none]) h _
  refine S_cut 1 ?_
  refine Wp_mono (Φ := fun f h' => ∃ (n m : Nat) (ns vs : List (List Str)), 1 ≤ n ∧ n ≤ 5 ∧ m ≤ 2 ∧ LexOk n m ns vs ∧ f = .nx [some (.ref c), some (lxV ns vs), none, none, none, none, none, none, none, none] ∧ ∃ S', Ml c S' h' ∧ Step S h S' h') ?_ ?_
  · simp [b19]
    refine Wp_mono (sp_spoon (k := k + 4) (p := 2) (m := 5) (by simp [pls]) (by decide) (by decide) C) ?_
    rintro v h1 ⟨z, rfl, hz, S1, C1, st1⟩
    simp
    refine Wp_mono (sp_spoon (k := k + 4) (p := 3) (m := 3) (by simp [pls]) (by decide) (by decide) C1) ?_
    rintro v h2 ⟨y, rfl, hy, S2, C2, st2⟩
    rw [show (1 : Int) + (z : Nat) = ((1 + z : Nat) : Int) by omega]
    refine Wp_mono (sp_lexiconG (k := k + 2) (n := 1 + z) (m := y) (by omega) (by omega) C2) ?_
    rintro v h3 ⟨ns, vs, rfl, L, S3, C3, st3⟩
    exact ⟨1 + z, by omega, by omega, y, by omega, ns, vs, L, rfl, S3, C3, (st1.trans st2).trans st3⟩
  rintro f h1 ⟨n, m, ns, vs, hn0, hn, hm, L, rfl, S1, C1, st1⟩
  have hld := L.ld
  have z1 := flat_len (m := 2) fun f hf => (L.nf f hf).1
  have z2 := flat_len (m := 3) fun f hf => (L.vf f hf).1
  have z3 := L.nl
  have z4 := L.vl
  have hz := L.len
  show Wp (evSs _ (b19.drop 1) _) _ _
  refine S_cut 2 ?_
  refine Wp_mono (Φ := fun f h' => ∃ (w3 w6 : Option PV), f = .nx [some (.ref c), some (lxV ns vs), some (.lst ((allF ns vs).map .str)), w3, none, none, w6, none, none, none] ∧ h' = h1) ?_ ?_
  · have step : ∀ (fs : List (List Str)) (ws : List Str) (w6 : Option PV), ws.length + fs.flatten.length ≤ 1000 →
        Wp (evSs (rn (k + 6)) [.for_ (.nm 6) (.seq (.var 3)) [.asg (.nm 2) (.bin .add (.var 2) (.bi .list [.var 6]))]] [some (.ref c), some (lxV ns vs), some (.lst (ws.map .str)), some (.tup (fVs fs)), none, none, w6, none, none, none]) h1 fun f h' => ∃ w6 : Option PV, f = .nx [some (.ref c), some (lxV ns vs), some (.lst ((ws ++ fs.flatten).map .str)), some (.tup (fVs fs)), none, none, w6, none, none, none] ∧ h' = h1 := by
      intro fs ws w6 hz
      simp
      refine Wp_forM fV (fun r e h' => ∃ (w6 : Option PV) (us : List Str), e = [some (.ref c), some (lxV ns vs), some (.lst (us.map .str)), some (.tup (fVs fs)), none, none, w6, none, none, none] ∧ h' = h1 ∧ us ++ r.flatten = ws ++ fs.flatten) (fun _ _ _ _ => rfl) ?_ ?_ _ _ _ ⟨w6, ws, rfl, rfl, rfl⟩
      · rintro f r e h' ⟨w6, us, rfl, rfl, he⟩
        have hl : us.length + (f.length + r.flatten.length) = ws.length + fs.flatten.length := by
          have := congrArg List.length he
          simpa using this
        simp
        exact ⟨by omega, _, us ++ f, ⟨by simp, rfl⟩, by rw [List.append_assoc]; simpa using he⟩
      · rintro e h' ⟨w6, us, rfl, rfl, he⟩
        simp at he
        subst he
        simp
    refine S_cut 1 ?_
    refine Wp_mono (Φ := fun f h' => f = .nx [some (.ref c), some (lxV ns vs), some (.lst (([] : List Str).map .str)), none, none, none, none, none, none, none] ∧ h' = h1) ?_ ?_
    · simp [b19]
    rintro f h' ⟨rfl, rfl⟩
    simp only [b19, List.drop_succ_cons, List.drop_zero, List.take_succ_cons, List.take_zero]
    refine S_cons.mpr ?_
    refine S_for.mpr ?_
    simp [-S_for]
    refine Wp_forG_cons.mpr ⟨rfl, ?_⟩
    refine Wp_mono (step ns [] none (by simp only [List.length_nil]; omega)) ?_
    rintro f h' ⟨w6, rfl, rfl⟩
    refine Wp_forG_cons.mpr ⟨rfl, ?_⟩
    refine Wp_mono (step vs ns.flatten w6 (by omega)) ?_
    rintro f h' ⟨w6, rfl, rfl⟩
    refine Wp_forG_nil.mpr ⟨rfl, ?_⟩
    simp
  rintro f h' ⟨w3, w6, rfl, rfl⟩
  have ef := fault_ok L hn0 hn hm
  have ehx : hx (lxV ns vs) = .tup [.str "told", .tup [.int (ns.length : Nat), .int (vs.length : Nat)]] := by
    unfold hx
    rw [ef]
    simp [lens]
  show Wp (evSs _ (b19.drop 3) _) _ _
  refine S_cut 2 ?_
  refine Wp_mono (Φ := fun f h'' => ∃ (w4 : Option PV), f = .nx [some (.ref c), some (lxV ns vs), some (.lst ((allF ns vs).map .str)), w3, w4, none, w6, none, none, none] ∧ h'' = h') ?_ ?_
  · have sc := strs_gdat (allF ns vs)
    have cf := fun h => c_forms (k := k + 5) (h := h) L hn hm
    have gl : nodesL ((allF ns vs).map PV.str) ≤ 20 := by rw [sc.2]; omega
    generalize (allF ns vs).map PV.str = G at cf sc gl ⊢
    simp [b19]
    refine Wp_of (c_heardX (k := k) hld) ?_
    refine Wp_of (cf _) ?_
    rw [ehx]
    refine Wp_of (c_same (by simp [sc.1]) (by simp; omega)) ?_
    simp
  rintro f h2 ⟨w4, rfl, rfl⟩
  show Wp (evSs _ (b19.drop 5) _) _ _
  have e7 : rng1V (.int 7) = some (rangeL 0 7) := rng1_nat (n := 7) (by decide)
  generalize PV.lst ((allF ns vs).map PV.str) = F2
  simp [b19, e7]
  refine Wp_forN 7 (fun i e g => ∃ (w5 w7 w8 w9 : Option PV), e = [some (.ref c), some (lxV ns vs), some F2, w3, w4, w5, w6, w7, w8, w9] ∧ ∃ S', Ml c S' g ∧ Step S h S' g) (fun _ _ _ _ => rfl) ?_ ?_ _ _ ⟨none, none, none, none, rfl, S1, C1, st1⟩
  · rintro i e g _ ⟨w5, w7, w8, w9, rfl, S2, C2, st2⟩
    show Wp (evSs (rn (k + 6)) lexT [some (.ref c), some (lxV ns vs), some F2, w3, w4, some (.int (i : Nat)), w6, w7, w8, w9]) g _
    refine S_cut 1 ?_
    refine Wp_mono (Φ := fun f g' => ∃ v : PV, ldat v = true ∧ bd v = true ∧ f = .nx [some (.ref c), some (lxV ns vs), some F2, w3, w4, some (.int (i : Nat)), w6, some v, w8, w9] ∧ ∃ S', Ml c S' g' ∧ Step S h S' g') ?_ ?_
    · simp
      refine Wp_mono (sp_bentG (k := k + 4) L hn0 hn hm C2) ?_
      rintro v g1 ⟨hv, hb, S3, C3, st3⟩
      exact ⟨v, hv, hb, rfl, S3, C3, st2.trans st3⟩
    rintro f g1 ⟨v, hv, hb, rfl, S3, C3, st3⟩
    show Wp (evSs _ (lexT.drop 1) _) _ _
    refine S_cut 1 ?_
    refine Wp_mono (Φ := fun f g' => ∃ v : PV, ldat v = true ∧ f = .nx [some (.ref c), some (lxV ns vs), some F2, w3, w4, some (.int (i : Nat)), w6, some v, w8, w9] ∧ ∃ S', Ml c S' g' ∧ Step S h S' g') ?_ ?_
    · refine S_cons.mpr ?_
      refine S_ite.mpr ?_
      refine Wp_mono (Φ := fun b g' => (b = true → ∃ x0 xs y, v = .tup [.tup (x0 :: xs), y]) ∧ ∃ S', Ml c S' g' ∧ Step S h S' g') ?_ ?_
      · simp
        refine Wp_mono (sp_bean (k := k + 5) (m := 3) (by decide) (by decide) C3) ?_
        rintro u g2 ⟨z, rfl, hz, S4, C4, st4⟩
        have hs : ∃ S', Ml c S' g2 ∧ Step S h S' g2 := ⟨S4, C4, st3.trans st4⟩
        by_cases q1 : z = 0
        · simp [q1]
          refine Wp_of (c_fault (k := k + 3) hv) ?_
          by_cases q2 : optF (fault v) = .non
          · simp [q2]
            exact hs
          · simp [q2]
            cases v with
            | tup l =>
              match l with
              | [] => simp; exact hs
              | [a] => simp; exact hs
              | a :: b :: e :: l =>
                have : ¬ ((l.length : Int) + 1 + 1 + 1 = 2) := by omega
                simp [this]
                exact hs
              | [x, y] =>
                have hv' : ldat x = true ∧ ldat y = true := by simpa using hv
                simp [isi_tp hv'.1]
                cases x with
                | tup a =>
                  cases a with
                  | nil => simp [isTp]; exact hs
                  | cons a as =>
                    have : (0 : Int) < (as.length : Int) + 1 := by omega
                    simp [isTp, this]
                    exact hs
                | _ => first | (simp [ldat] at hv'; done) | (simp [isTp]; exact hs)
            | _ => first | (simp [ldat] at hv; done) | (simp; exact hs)
        · simp [q1]
          exact hs
      · rintro b g2 ⟨hsh, S4, C4, st4⟩
        cases b with
        | false =>
          simp
          exact ⟨v, hv, rfl, S4, C4, st4⟩
        | true =>
          obtain ⟨x0, xs, y, rfl⟩ := hsh rfl
          have hv' : (ldat x0 = true ∧ ldats xs = true) ∧ ldat y = true := by simpa using hv
          have hb' : xs.length + 1 ≤ 1000 := by simpa using hb
          have hc : ldats (cut (x0 :: xs) (some 1) none) = true := ldats_cut (by simp [hv'])
          have hcl := cut_len (x0 :: xs) (some 1) none
          have lq : (Str.ofString "qz").length ≤ 1000 := by decide +kernel
          have lq2 : (Str.ofString "qq").length ≤ 1000 := by decide +kernel
          simp only [List.length_cons] at hcl
          simp
          refine Wp_mono (sp_bean (k := k + 5) (m := 2) (by decide) (by decide) C4) ?_
          rintro u g3 ⟨z, rfl, hz, S5, C5, st5⟩
          have hs : ∃ S', Ml c S' g3 ∧ Step S h S' g3 := ⟨S5, C5, st4.trans st5⟩
          simp
          split
          · exact ⟨_, by simpa using ⟨hv'.1, lq2, lq⟩, rfl, hs⟩
          · exact ⟨by omega, _, by simpa using ⟨⟨lq2, hc⟩, hv'.2⟩, rfl, hs⟩
    rintro f g2 ⟨v, hv, rfl, S4, C4, st4⟩
    show Wp (evSs _ (lexT.drop 2) _) _ _
    have eS := fun h => c_sameX (k := k + 5) (v := v) (h := h)
    simp
    refine Wp_of (c_fault (k := k + 3) hv) ?_
    cases e : fault v with
    | none =>
      obtain ⟨a, b, rfl⟩ : ∃ a b, v = .tup [.tup a, .tup b] := by
        refine Classical.byContradiction fun q => ?_
        rw [fault_shape fun a b e => q ⟨a, b, e⟩] at e
        cases e
      have eh : hx (.tup [.tup a, .tup b]) = .tup [.str "told", .tup [.int (a.length : Nat), .int (b.length : Nat)]] := by
        unfold hx
        rw [e]
        rfl
      simp [optF]
      refine Wp_of (c_heardX (k := k) hv) ?_
      rw [← eh]
      refine Wp_of (eS _) ?_
      simp
      exact ⟨S4, C4, st4⟩
    | some iw =>
      obtain ⟨j, w⟩ := iw
      have eh : hx v = .tup [.str "lexicon", .int j, .str w] := by
        unfold hx
        rw [e]
      simp [optF]
      refine ⟨by omega, ?_⟩
      refine Wp_of (c_heardX (k := k) hv) ?_
      rw [← eh]
      refine Wp_of (eS _) ?_
      simp
      exact ⟨S4, C4, st4⟩
  · rintro e g ⟨w5, w7, w8, w9, rfl, hS⟩
    simp
    exact hS
end Z

namespace Z
open PySem Y
variable {k : Nat} {h : Hh}
def wordsL : List PV := [.tup [.str "cat", .tup [.str "told", .int 3]],
  .tup [.str "cat2", .tup [.str "word", .int 3]],
  .tup [.str "abcdefghij", .tup [.str "told", .int 10]],
  .tup [.str "abcdefghijk", .tup [.str "word", .int (-1)]],
  .tup [.str "2bcdefghijk", .tup [.str "word", .int (-1)]],
  .tup [.str "questions", .tup [.str "word", .int (-1)]],
  .tup [.str "question", .tup [.str "told", .int 8]],
  .tup [.str "All", .tup [.str "word", .int 0]],
  .tup [.str "a b", .tup [.str "word", .int 1]],
  .tup [.bl true, .tup [.str "word", .int (-1)]]]
def rowsL : List PV := [.tup [.tup [.tup [.tup [.str "cat", .str "cats"]], .tup []], .tup [.str "told", .tup [.int 1, .int 0]]],
  .tup [.tup [.tup [.tup [.str "na", .str "pa"], .tup [.str "nb", .str "pb"], .tup [.str "nc", .str "pc"], .tup [.str "nd", .str "pd"], .tup [.str "ne", .str "pe"]], .tup [.tup [.str "fear", .str "fears", .str "feared"], .tup [.str "see", .str "sees", .str "seen"]]], .tup [.str "told", .tup [.int 5, .int 2]]],
  .tup [.tup [.tup [.tup [.str "na", .str "pa"], .tup [.str "nb", .str "pb"], .tup [.str "nc", .str "pc"], .tup [.str "nd", .str "pd"], .tup [.str "ne", .str "pe"], .tup [.str "cat", .str "cats"]], .tup [.tup [.str "fear", .str "fears", .str "feared"], .tup [.str "see", .str "sees", .str "seen"]]], .tup [.str "lexicon", .int (-1), .str "nouns"]],
  .tup [.tup [.tup [.tup [.str "na", .str "pa"], .tup [.str "nb", .str "pb"], .tup [.str "nc", .str "pc"], .tup [.str "nd", .str "pd"], .tup [.str "ne", .str "pe"]], .tup [.tup [.str "fear", .str "fears", .str "feared"], .tup [.str "see", .str "sees", .str "seen"], .tup [.str "eat", .str "eats", .str "eaten"]]], .tup [.str "lexicon", .int (-1), .str "verbs"]],
  .tup [.tup [.tup [], .tup []], .tup [.str "lexicon", .int (-1), .str "nouns"]],
  .tup [.tup [.tup [.tup [.str "na", .str "pa"], .tup [.str "nb", .str "pb"], .tup [.str "nc", .str "pc"], .tup [.str "nd", .str "pd"], .tup [.str "ne", .str "pe"], .tup [.str "cat", .str "cats"]], .tup [.tup [.str "fear", .str "fears", .str "feared"], .tup [.str "see", .str "sees", .str "seen"], .tup [.str "fear", .str "fears", .str "feared"], .tup [.str "see", .str "sees", .str "seen"]]], .tup [.str "lexicon", .int (-1), .str "nouns"]],
  .tup [.tup [.lst [.tup [.str "cat", .str "cats"]], .tup []], .tup [.str "lexicon", .int (-1), .str "shape"]],
  .tup [.tup [.tup [.tup [.str "cat", .str "cats"]]], .tup [.str "lexicon", .int (-1), .str "shape"]],
  .tup [.tup [.tup [.tup [.str "cat", .str "cats"], .tup [.str "cat", .str "dogs"]], .tup []], .tup [.str "lexicon", .int 1, .str "nouns"]],
  .tup [.tup [.tup [.tup [.str "cat", .str "cats"], .tup [.str "dog", .str "cats"]], .tup [.tup []]], .tup [.str "lexicon", .int 1, .str "nouns"]],
  .tup [.tup [.tup [.tup [.str "deer", .str "deer"]], .tup []], .tup [.str "lexicon", .int 0, .str "nouns"]],
  .tup [.tup [.tup [.tup [.str "cat", .str "cats"]], .tup [.tup [.str "fear", .str "fears", .str "cats"]]], .tup [.str "lexicon", .int 0, .str "verbs"]],
  .tup [.tup [.tup [.tup [.str "cat", .str "cats"]], .tup [.tup [.str "fear", .str "fears", .str "feared"], .tup [.str "see", .str "fears", .str "seen"]]], .tup [.str "lexicon", .int 1, .str "verbs"]],
  .tup [.tup [.tup [.tup [.str "cat", .str "cats"]], .tup [.tup [.str "fear", .str "fears", .str "feared"], .tup [.str "see", .str "sees", .str "feared"]]], .tup [.str "lexicon", .int 1, .str "verbs"]],
  .tup [.tup [.tup [.tup [.str "cat", .str "cats"]], .tup [.tup [.str "put", .str "puts", .str "put"]]], .tup [.str "lexicon", .int 0, .str "verbs"]],
  .tup [.tup [.tup [.tup [.str "cat", .str "cats"], .tup [.str "cat", .str "cats"]], .tup [.non]], .tup [.str "lexicon", .int 1, .str "nouns"]],
  .tup [.tup [.tup [.tup [.str "cat", .str "cats"], .tup [.str "cat", .str "cats"]], .tup [.tup [.str "fear", .str "fears", .str "feared"], .tup [.str "see", .str "sees", .str "seen"], .tup [.str "eat", .str "eats", .str "eaten"]]], .tup [.str "lexicon", .int (-1), .str "verbs"]],
  .tup [.tup [.tup [.tup [.str "cat", .str "cats"], .tup [.str "thing", .str "things"]], .tup []], .tup [.str "lexicon", .int 1, .str "nouns"]],
  .tup [.tup [.tup [.tup [.str "cat", .str "cats"], .tup [.str "dog", .str "abcdefghijk"]], .tup []], .tup [.str "lexicon", .int 1, .str "nouns"]]]
abbrev fiveV : PV := .tup [.tup [.str "na", .str "pa"], .tup [.str "nb", .str "pb"], .tup [.str "nc", .str "pc"], .tup [.str "nd", .str "pd"], .tup [.str "ne", .str "pe"]]
abbrev twoV : PV := .tup [.tup [.str "fear", .str "fears", .str "feared"], .tup [.str "see", .str "sees", .str "seen"]]
abbrev oneV : PV := .tup [.str "cat", .str "cats"]
abbrev fearV : PV := .tup [.str "fear", .str "fears", .str "feared"]
abbrev dueV : PV := .tup [.str "na", .str "pa", .str "nb", .str "pb", .str "nc", .str "pc", .str "nd", .str "pd", .str "ne", .str "pe", .str "fear", .str "fears", .str "feared", .str "see", .str "sees", .str "seen"]
theorem hand1 {j : PV} : evSs (rn k) (b20.take 2) [some j, none, none, none, none, none, none, none, none, none, none] h = .ok (.nx [some j, some (.lst wordsL), none, none, none, none, none, none, none, none, none]) h := by
  rfl
theorem hand2 {j : PV} {w2 w7 : Option PV} : evSs (rn k) ((b20.drop 4).take 12) [some j, some (.lst wordsL), w2, none, none, none, none, w7, none, none, none] h = .ok (.nx [some j, some (.lst wordsL), w2, some fiveV, some twoV, some (.lst rowsL), none, w7, some oneV, some fearV, none]) h := by
  rfl
def okW : PV → Bool
  | .tup [t, d] => ldat t && decide (hw t = d)
  | _ => false
def okX : PV → Bool
  | .tup [t, d] => ldat t && decide (hx t = d)
  | _ => false
theorem okW_of {v : PV} (e : okW v = true) : ∃ t, v = .tup [t, hw t] ∧ ldat t = true := by
  unfold okW at e
  split at e
  · rw [Bool.and_eq_true, decide_eq_true_eq] at e
    exact ⟨_, by rw [e.2], e.1⟩
  · cases e
theorem okX_of {v : PV} (e : okX v = true) : ∃ t, v = .tup [t, hx t] ∧ ldat t = true := by
  unfold okX at e
  split at e
  · rw [Bool.and_eq_true, decide_eq_true_eq] at e
    exact ⟨_, by rw [e.2], e.1⟩
  · cases e
theorem words_ok : wordsL.all okW = true := by decide +kernel
theorem rows_ok : rowsL.all okX = true := by decide +kernel
theorem none_ok : noL.all (fun v => ldat v && decide (hw v = .tup [.str "word", .int (-1)])) = true := by decide +kernel
theorem Wp_forI {Xc : Nat → List PV → Prop} {Γ : Fl → Hh → Prop} {g : Hh → Bool} {f : PV → Ev → M Fl} (I : List PV → Ev → Hh → Prop) (hg : ∀ r e h, I r e h → g h = true)
    (step : ∀ x r e h, I (x :: r) e h → WpX Xc (f x e) h fun fl h' => match fl with | .nx e' => I r e' h' | .ct e' => I r e' h' | .bk e' => Γ (.nx e') h' | .rt v => Γ (.rt v) h')
    (done : ∀ e h, I [] e h → Γ (.nx e) h) (l : List PV) (env : Ev) (h : Hh) (h0 : I l env h) : WpX Xc (forG g f l env) h Γ := by
  have := Wp_forM (Xc := Xc) (Γ := Γ) id I hg step done l env h h0
  rwa [List.map_id] at this
def fiveS : List (List Str) := [["na", "pa"], ["nb", "pb"], ["nc", "pc"], ["nd", "pd"], ["ne", "pe"]]
def twoS : List (List Str) := [["fear", "fears", "feared"], ["see", "sees", "seen"]]
theorem lex52 : LexOk 5 2 fiveS twoS := ⟨rfl, rfl, by unfold Fm; decide +kernel, by unfold Fm; decide +kernel, by decide +kernel, by decide +kernel⟩
theorem lex10 : LexOk 1 0 [["cat", "cats"]] [] := ⟨rfl, rfl, by unfold Fm; decide +kernel, by simp, by decide +kernel, by decide +kernel⟩
theorem hc1 : callM (rn (k + 6)) false 6 [.tup [fiveV, twoV]] h = .ok dueV h := by
  have := c_forms (k := k + 5) (h := h) lex52 (by decide) (by decide)
  rw [show lxV fiveS twoS = .tup [fiveV, twoV] from rfl, show PV.tup ((allF fiveS twoS).map .str) = dueV from rfl] at this
  exact this
theorem hc2 : callM (rn (k + 6)) false 6 [.tup [.tup [oneV], .tup []]] h = .ok oneV h := by
  have := c_forms (k := k + 5) (h := h) lex10 (by decide) (by decide)
  rw [show lxV [["cat", "cats"]] [] = .tup [.tup [oneV], .tup []] from rfl, show PV.tup ((allF [["cat", "cats"]] []).map .str) = oneV from rfl] at this
  exact this
theorem hc3 : callM (rn (k + 6)) false 10 [.tup [dueV, oneV], .tup [dueV, oneV]] h = .ok (.bl true) h := c_same (by decide +kernel) (by decide +kernel)
theorem hand3 {j e1 e2 e5 e6 e7 : Option PV} : evSs (rn k) ((b20.drop 18).take 1) [j, e1, e2, some fiveV, some twoV, e5, e6, e7, some oneV, some fearV, none] h = .ok (.nx [j, e1, e2, some fiveV, some twoV, e5, e6, some dueV, some oneV, some fearV, none]) h := rfl
theorem fin_hand {P : Hh → Prop} {j e1 e2 e5 e6 e7 : Option PV} (hP : P h) : Wp (evSs (rn (k + 6)) (b20.drop 18) [j, e1, e2, some fiveV, some twoV, e5, e6, e7, some oneV, some fearV, none]) h fun f g' => ∃ v, f = .rt v ∧ v = .bl true ∧ P g' := by
  refine S_cut 1 (Wp_of hand3 ?_)
  have c1 := fun g => hc1 (k := k) (h := g)
  have c2 := fun g => hc2 (k := k) (h := g)
  have c3 := fun g => hc3 (k := k) (h := g)
  generalize fiveV = A at c1 ⊢
  generalize twoV = B at c1 ⊢
  generalize dueV = D at c1 c3 ⊢
  generalize oneV = O at c2 c3 ⊢
  show Wp (evSs _ (b20.drop 19) _) _ _
  simp only [b20, List.drop_succ_cons, List.drop_zero]
  simp
  refine Wp_of (c1 _) ?_
  refine Wp_of (c2 _) ?_
  refine Wp_of (c3 _) ?_
  exact ⟨rfl, hP⟩
theorem sp_hand {c : Nat} {S : List Nat} (C : Ml c S h) :
    Wp (rn (k + 7) 20 [.ref c]) h fun v h' => v = .bl true ∧ ∃ S', Ml c S' h' ∧ Step S h S' h' := by
  have hSZ : SZ = 16777216 := rfl
  refine (run_at (d := F20.d) rfl rfl).mpr ?_
  show Wp (evSs (rn (k + 6)) b20 [some (.ref c), none, none, none, none, none, none, none, none, none, none]) h _
  refine S_cut 2 (Wp_of hand1 ?_)
  show Wp (evSs _ (b20.drop 2) _) _ _
  refine S_cut 2 ?_
  refine Wp_mono (Φ := fun f h' => ∃ (w2 w7 : Option PV), f = .nx [some (.ref c), some (.lst wordsL), w2, none, none, none, none, w7, none, none, none] ∧ h' = h) ?_ ?_
  · have hall := words_ok
    generalize wordsL = W at hall ⊢
    simp only [b20, List.drop_succ_cons, List.drop_zero, List.take_succ_cons, List.take_zero]
    refine S_cut 1 ?_
    refine Wp_mono (Φ := fun f h' => ∃ (w2 w7 : Option PV), f = .nx [some (.ref c), some (.lst W), w2, none, none, none, none, w7, none, none, none] ∧ h' = h) ?_ ?_
    · simp
      refine Wp_forI (fun r e h' => ∃ (w2 w7 : Option PV), e = [some (.ref c), some (.lst W), w2, none, none, none, none, w7, none, none, none] ∧ h' = h ∧ ∀ x ∈ r, okW x = true) (fun _ _ _ _ => rfl) ?_ ?_ _ _ _ ⟨none, none, rfl, rfl, fun x hx => List.all_eq_true.mp hall x hx⟩
      · rintro x r e h' ⟨w2, w7, rfl, rfl, hr⟩
        obtain ⟨t, rfl, ht⟩ := okW_of (hr x (by simp))
        simp
        refine Wp_of (c_heardW ht) ?_
        refine Wp_of c_sameW ?_
        simp
        exact fun x hx => hr x (by simp [hx])
      · rintro e h' ⟨w2, w7, rfl, rfl, _⟩
        simp
    · rintro f h' ⟨w2, w7, rfl, rfl⟩
      simp
      refine Wp_of c_none ?_
      simp
      have hall := none_ok
      refine Wp_forI (fun r e g => ∃ (w2 w7 : Option PV), e = [some (.ref c), some (.lst W), w2, none, none, none, none, w7, none, none, none] ∧ g = h' ∧ ∀ x ∈ r, ldat x = true ∧ hw x = .tup [.str "word", .int (-1)]) (fun _ _ _ _ => rfl) ?_ ?_ _ _ _ ⟨w2, w7, rfl, rfl, fun x hx => by
        have := List.all_eq_true.mp hall x hx
        simpa using this⟩
      · rintro x r e g ⟨w2, w7, rfl, rfl, hr⟩
        obtain ⟨h1, h2⟩ := hr x (by simp)
        simp
        refine Wp_of (c_heardW h1) ?_
        rw [← h2]
        refine Wp_of c_sameW ?_
        simp
        refine fun y hy => ?_
        rw [h2]
        exact hr y (by simp [hy])
      · rintro e g ⟨w2, w7, rfl, rfl, _⟩
        simp
  rintro f h' ⟨w2, w7, rfl, rfl⟩
  show Wp (evSs _ (b20.drop 4) _) _ _
  refine S_cut 12 (Wp_of hand2 ?_)
  show Wp (evSs _ (b20.drop 16) _) _ _
  have hlen : rowsL.length = 19 := rfl
  have hall := rows_ok
  have fin : ∀ (g : Hh) (e1 e2 e5 e6 e7 : Option PV), (∃ S', Ml c S' g ∧ Step S h' S' g) → Wp (evSs (rn (k + 6)) (b20.drop 18) [some (.ref c), e1, e2, some fiveV, some twoV, e5, e6, e7, some oneV, some fearV, none]) g fun f g' => ∃ v, f = .rt v ∧ v = .bl true ∧ ∃ S', Ml c S' g' ∧ Step S h' S' g' := by
    intro g e1 e2 e5 e6 e7 hS
    exact fin_hand hS
  have ht : ∀ (e : Ev) (g : Hh) (Γ : Fl → Hh → Prop), WpX noX (evSs (rn (k + 6)) (b20.drop 18) e) g Γ → WpX noX (evSs (rn (k + 6)) ((b20.drop 16).drop 2) e) g Γ := fun _ _ _ q => q
  refine S_cut 2 ?_
  refine Wp_mono (Φ := fun f g => ∃ (e1 e2 e5 e6 e7 : Option PV), f = .nx [some (.ref c), e1, e2, some fiveV, some twoV, e5, e6, e7, some oneV, some fearV, none] ∧ ∃ S', Ml c S' g ∧ Step S h' S' g) ?_ ?_
  · generalize rowsL = R at hlen hall ⊢
    generalize fiveV = A
    generalize twoV = B
    simp only [b20, List.drop_succ_cons, List.drop_zero, List.take_succ_cons, List.take_zero]
    simp [hlen]
    refine Wp_mono (sp_bean (k := k + 5) (m := 19) (by decide) (by decide) C) ?_
    rintro v g ⟨z, rfl, hz, S1, C1, st1⟩
    have q1 := cut_len R (some (z : Int)) none
    have q2 := cut_len R none (some (z : Int))
    simp
    refine ⟨by omega, ?_⟩
    have hmem : ∀ x ∈ cut R (some (z : Int)) none ++ cut R none (some (z : Int)), okX x = true := fun x hx => by
      refine List.all_eq_true.mp hall x ?_
      rcases List.mem_append.mp hx with hx | hx
      · exact List.mem_of_mem_drop (List.mem_of_mem_take hx)
      · exact List.mem_of_mem_drop (List.mem_of_mem_take hx)
    refine Wp_forI (fun r e g' => ∃ (w2 w7 : Option PV), e = [some (.ref c), some (.lst wordsL), w2, some A, some B, some (.lst R), some (.int (z : Nat)), w7, some oneV, some fearV, none] ∧ g' = g ∧ ∀ x ∈ r, okX x = true) (fun _ _ _ _ => rfl) ?_ ?_ _ _ _ ⟨_, _, rfl, rfl, hmem⟩
    · rintro x r e g' ⟨w2, w7, rfl, rfl, hr⟩
      obtain ⟨t, rfl, ht⟩ := okX_of (hr x (by simp))
      simp
      refine Wp_of (c_heardX (k := k) ht) ?_
      refine Wp_of c_sameX ?_
      simp
      exact fun x hx => hr x (by simp [hx])
    · rintro e g' ⟨w2, w7, rfl, rfl, _⟩
      simp
      exact ⟨S1, C1, st1⟩
  · rintro f g ⟨e1, e2, e5, e6, e7, rfl, hS⟩
    refine ht _ _ _ (Wp_mono (fin g e1 e2 e5 e6 e7 hS) ?_)
    rintro f g' ⟨v, rfl, hv⟩
    exact hv
theorem law_ok {zs : List Int} (_ : zs.length ≤ 63) : Wp (rn 10 21 [.scr (zs.map .int)]) [] fun v _ => v = .bl true := by
  refine (run_at (d := F21.d) rfl rfl).mpr ?_
  have e2 : rng1V (.int 2) = some (rangeL 0 2) := rng1_nat (n := 2) (by decide)
  simp [Fd.d, F21, b21, startE]
  refine Wp_mono (sp_jar (k := 8)) ?_
  rintro v h1 ⟨rfl, C1⟩
  refine Wp_mono (sp_hand (k := 2) C1) ?_
  rintro v h2 ⟨rfl, S2, C2, _⟩
  simp [e2]
  refine Wp_forN 2 (fun i e g => ∃ (w : Option PV), e = [some (.scr (zs.map .int)), some (.ref 2), w] ∧ ∃ S', Ml 2 S' g) (fun _ _ _ _ => rfl) ?_ ?_ _ _ ⟨none, rfl, S2, C2⟩
  · rintro i e g _ ⟨w, rfl, S3, C3⟩
    simp
    refine Wp_mono (sp_wordsA (k := 5) C3) ?_
    rintro v g1 ⟨rfl, S4, C4, _⟩
    simp
    refine Wp_mono (sp_lexA (k := 2) C4) ?_
    rintro v g2 ⟨rfl, S5, C5, _⟩
    simp
    exact ⟨S5, C5⟩
  · rintro e g ⟨w, rfl, _⟩
    simp
end Z

namespace Z
open PySem Y L2
theorem bd0 : BdF F0 := fun _ _ _ _ _ _ us hl => match us, hl with | [_, _], _ => rfl
theorem kw0 : ∀ kw ∈ F0.kws, KwF F0 kw := fun _ h => by cases h
theorem bd1 : BdF F1 := fun _ _ _ _ _ _ us hl => match us, hl with | [_], _ => rfl
theorem kw1 : ∀ kw ∈ F1.kws, KwF F1 kw := fun _ h => by cases h
theorem bd2 : BdF F2 := fun _ _ _ _ _ _ us hl => match us, hl with | [_], _ => rfl
theorem kw2 : ∀ kw ∈ F2.kws, KwF F2 kw := fun _ h => by cases h
theorem bd3 : BdF F3 := fun _ _ _ _ _ _ us hl => match us, hl with | [_, _, _], _ => rfl
theorem kw3 : ∀ kw ∈ F3.kws, KwF F3 kw := fun _ h => by cases h
theorem bd4 : BdF F4 := fun _ _ _ _ _ _ us hl => match us, hl with | [_, _, _, _], _ => rfl
theorem kw4 : ∀ kw ∈ F4.kws, KwF F4 kw := fun _ h => by cases h
theorem bd5 : BdF F5 := fun _ _ _ _ _ _ us hl => match us, hl with | [_], _ => rfl
theorem kw5 : ∀ kw ∈ F5.kws, KwF F5 kw := fun _ h => by cases h
theorem bd6 : BdF F6 := fun _ _ _ _ _ _ us hl => match us, hl with | [_], _ => rfl
theorem kw6_0 : KwF F6 (["lexicon"], [0]) := fun _ _ _ _ _ _ us ws hl hp => match us, hl with | [a0], _ => by cases (show some [a0] = some ws from hp); rfl
theorem kw6 : ∀ kw ∈ F6.kws, KwF F6 kw := List.forall_mem_cons.mpr ⟨kw6_0, fun _ h => by cases h⟩
theorem bd7 : BdF F7 := fun _ _ _ _ _ _ us hl => match us, hl with | [_], _ => rfl
theorem kw7 : ∀ kw ∈ F7.kws, KwF F7 kw := fun _ h => by cases h
theorem bd8 : BdF F8 := fun _ _ _ _ _ _ us hl => match us, hl with | [_, _], _ => rfl
theorem kw8 : ∀ kw ∈ F8.kws, KwF F8 kw := fun _ h => by cases h
theorem bd9 : BdF F9 := fun _ _ _ _ _ _ us hl => match us, hl with | [_, _, _], _ => rfl
theorem kw9 : ∀ kw ∈ F9.kws, KwF F9 kw := fun _ h => by cases h
theorem bd10 : BdF F10 := fun _ _ _ _ _ _ us hl => match us, hl with | [_, _], _ => rfl
theorem kw10 : ∀ kw ∈ F10.kws, KwF F10 kw := fun _ h => by cases h
theorem bd11 : BdF F11 := fun _ _ _ _ _ _ us hl => match us, hl with | [], _ => rfl
theorem kw11 : ∀ kw ∈ F11.kws, KwF F11 kw := fun _ h => by cases h
theorem bd12 : BdF F12 := fun _ _ _ _ _ _ us hl => match us, hl with | [_], _ => rfl
theorem kw12 : ∀ kw ∈ F12.kws, KwF F12 kw := fun _ h => by cases h
theorem bd13 : BdF F13 := fun _ _ _ _ _ _ us hl => match us, hl with | [_, _], _ => rfl
theorem kw13 : ∀ kw ∈ F13.kws, KwF F13 kw := fun _ h => by cases h
theorem bd14 : BdF F14 := fun _ _ _ _ _ _ us hl => match us, hl with | [_, _], _ => rfl
theorem kw14 : ∀ kw ∈ F14.kws, KwF F14 kw := fun _ h => by cases h
theorem bd15 : BdF F15 := fun _ _ _ _ _ _ us hl => match us, hl with | [_], _ => rfl
theorem kw15 : ∀ kw ∈ F15.kws, KwF F15 kw := fun _ h => by cases h
theorem bd16 : BdF F16 := fun _ _ _ _ _ _ us hl => match us, hl with | [_, _, _], _ => rfl
theorem kw16 : ∀ kw ∈ F16.kws, KwF F16 kw := fun _ h => by cases h
theorem bd17 : BdF F17 := fun _ _ _ _ _ _ us hl => match us, hl with | [_, _], _ => rfl
theorem kw17 : ∀ kw ∈ F17.kws, KwF F17 kw := fun _ h => by cases h
theorem bd18 : BdF F18 := fun _ _ _ _ _ _ us hl => match us, hl with | [_], _ => rfl
theorem kw18 : ∀ kw ∈ F18.kws, KwF F18 kw := fun _ h => by cases h
theorem bd19 : BdF F19 := fun _ _ _ _ _ _ us hl => match us, hl with | [_], _ => rfl
theorem kw19 : ∀ kw ∈ F19.kws, KwF F19 kw := fun _ h => by cases h
theorem bd20 : BdF F20 := fun _ _ _ _ _ _ us hl => match us, hl with | [_], _ => rfl
theorem kw20 : ∀ kw ∈ F20.kws, KwF F20 kw := fun _ h => by cases h
theorem bd21 : BdF F21 := fun _ _ _ _ _ _ us hl => match us, hl with | [_], _ => rfl
theorem kw21 : ∀ kw ∈ F21.kws, KwF F21 kw := fun _ h => by cases h
def ini_0 : Stmt := (clsB (top 4)).getD 0 (.Pass ⟨0, 0, 0, 0⟩)
theorem ck_0 : ckI0 ["at", "word"] ini_0 = true := by decide +kernel
theorem bi_0 (cc c : Addr) (kV dc pm : Value) (an : Option Addr) (ct : Value) : ∀ us : List Value, us.length = 3 → bindArgs (PySem.W.fnX "__init__" "BadLexicon.__init__" (defArgs ini_0) (defBody ini_0) (defScope ini_0) [(("__class__" : Str), cc)] .none kV dc pm an (.ref c) ct) ⟨us, []⟩ = pure ([("self" : Str), "at", "word"].zip us) := fun us hl => match us, hl with | [_, _, _], _ => rfl
def ini_1 : Stmt := (clsB (top 3)).getD 0 (.Pass ⟨0, 0, 0, 0⟩)
theorem ck_1 : ckI0 ["at"] ini_1 = true := by decide +kernel
theorem bi_1 (cc c : Addr) (kV dc pm : Value) (an : Option Addr) (ct : Value) : ∀ us : List Value, us.length = 2 → bindArgs (PySem.W.fnX "__init__" "BadWord.__init__" (defArgs ini_1) (defBody ini_1) (defScope ini_1) [(("__class__" : Str), cc)] .none kV dc pm an (.ref c) ct) ⟨us, []⟩ = pure ([("self" : Str), "at"].zip us) := fun us hl => match us, hl with | [_, _], _ => rfl
theorem hdk_BadLexicon {K : PySem.W.Frag} {C0 C1 D : Addr} (h0 : PySem.W.exmOne K (.ref C0) (.ref D) = some true) (h1 : PySem.W.exmOne K (.ref C1) (.ref D) = some false) : HdK K [(C0, ["at", "word"]), (C1, ["at"])] [(0, 2)] (.ref D) := hdk_of (fun i C ns e => by
  match i, e with
  | 0, rfl => exact .inl ⟨rfl, h0⟩
  | 1, rfl => exact .inr ⟨rfl, h1⟩
  | n + 2, h => simp at h) (fun c n e => by
  have : ∀ q ∈ ([(0, 2)] : List (Nat × Nat)), ∃ C ns, ([(C0, ["at", "word"]), (C1, ["at"])] : List (Addr × List Str))[q.1]? = some (C, ns) := by simp
  exact this (c, n) (mem_lookN e))
theorem hdk_BadWord {K : PySem.W.Frag} {C0 C1 D : Addr} (h0 : PySem.W.exmOne K (.ref C0) (.ref D) = some false) (h1 : PySem.W.exmOne K (.ref C1) (.ref D) = some true) : HdK K [(C0, ["at", "word"]), (C1, ["at"])] [(1, 1)] (.ref D) := hdk_of (fun i C ns e => by
  match i, e with
  | 0, rfl => exact .inr ⟨rfl, h0⟩
  | 1, rfl => exact .inl ⟨rfl, h1⟩
  | n + 2, h => simp at h) (fun c n e => by
  have : ∀ q ∈ ([(1, 1)] : List (Nat × Nat)), ∃ C ns, ([(C0, ["at", "word"]), (C1, ["at"])] : List (Addr × List Str))[q.1]? = some (C, ns) := by simp
  exact this (c, n) (mem_lookN e))
theorem hdk_FearError {K : PySem.W.Frag} {C0 C1 D : Addr} (h0 : PySem.W.exmOne K (.ref C0) (.ref D) = some true) (h1 : PySem.W.exmOne K (.ref C1) (.ref D) = some true) : HdK K [(C0, ["at", "word"]), (C1, ["at"])] [(0, 2), (1, 1)] (.ref D) := hdk_of (fun i C ns e => by
  match i, e with
  | 0, rfl => exact .inl ⟨rfl, h0⟩
  | 1, rfl => exact .inl ⟨rfl, h1⟩
  | n + 2, h => simp at h) (fun c n e => by
  have : ∀ q ∈ ([(0, 2), (1, 1)] : List (Nat × Nat)), ∃ C ns, ([(C0, ["at", "word"]), (C1, ["at"])] : List (Addr × List Str))[q.1]? = some (C, ns) := by simp
  exact this (c, n) (mem_lookN e))
theorem all_mk {K : PySem.W.Frag} {h : Heap} {mg : Str → Option Value} {fa f0 f1 f2 f3 f4 f5 f6 f7 f8 f9 f10 f11 f12 f13 f14 f15 f16 f17 f18 f19 f20 f21 : Addr} (X : K.In h) (G : h.Ns mainGlobals mg) (hfa : mg "law" = some (.ref fa))
    {oc0 kV0 dc0 pm0 cd0 ct0 : Value} {od0 an0 : Option Addr} {sl0 : Array (Option Value)}
    (a0 : PySem.W.nsIn K mainGlobals F0.name = some (some (.ref f0))) (l0 : K.lookup f0 = some ⟨oc0, od0, .func (fnF F0 kV0 dc0 pm0 an0 cd0 ct0), sl0⟩) (c0 : PySem.W.codeIn K cd0 F0.qual = true) (k0 : PySem.W.keepIn K (.ref f0) = true)
    {oc1 kV1 dc1 pm1 cd1 ct1 : Value} {od1 an1 : Option Addr} {sl1 : Array (Option Value)}
    (a1 : PySem.W.nsIn K mainGlobals F1.name = some (some (.ref f1))) (l1 : K.lookup f1 = some ⟨oc1, od1, .func (fnF F1 kV1 dc1 pm1 an1 cd1 ct1), sl1⟩) (c1 : PySem.W.codeIn K cd1 F1.qual = true) (k1 : PySem.W.keepIn K (.ref f1) = true)
    {oc2 kV2 dc2 pm2 cd2 ct2 : Value} {od2 an2 : Option Addr} {sl2 : Array (Option Value)}
    (a2 : PySem.W.nsIn K mainGlobals F2.name = some (some (.ref f2))) (l2 : K.lookup f2 = some ⟨oc2, od2, .func (fnF F2 kV2 dc2 pm2 an2 cd2 ct2), sl2⟩) (c2 : PySem.W.codeIn K cd2 F2.qual = true) (k2 : PySem.W.keepIn K (.ref f2) = true)
    {oc3 kV3 dc3 pm3 cd3 ct3 : Value} {od3 an3 : Option Addr} {sl3 : Array (Option Value)}
    (a3 : PySem.W.nsIn K mainGlobals F3.name = some (some (.ref f3))) (l3 : K.lookup f3 = some ⟨oc3, od3, .func (fnF F3 kV3 dc3 pm3 an3 cd3 ct3), sl3⟩) (c3 : PySem.W.codeIn K cd3 F3.qual = true) (k3 : PySem.W.keepIn K (.ref f3) = true)
    {oc4 kV4 dc4 pm4 cd4 ct4 : Value} {od4 an4 : Option Addr} {sl4 : Array (Option Value)}
    (a4 : PySem.W.nsIn K mainGlobals F4.name = some (some (.ref f4))) (l4 : K.lookup f4 = some ⟨oc4, od4, .func (fnF F4 kV4 dc4 pm4 an4 cd4 ct4), sl4⟩) (c4 : PySem.W.codeIn K cd4 F4.qual = true) (k4 : PySem.W.keepIn K (.ref f4) = true)
    {oc5 kV5 dc5 pm5 cd5 ct5 : Value} {od5 an5 : Option Addr} {sl5 : Array (Option Value)}
    (a5 : PySem.W.nsIn K mainGlobals F5.name = some (some (.ref f5))) (l5 : K.lookup f5 = some ⟨oc5, od5, .func (fnF F5 kV5 dc5 pm5 an5 cd5 ct5), sl5⟩) (c5 : PySem.W.codeIn K cd5 F5.qual = true) (k5 : PySem.W.keepIn K (.ref f5) = true)
    {oc6 kV6 dc6 pm6 cd6 ct6 : Value} {od6 an6 : Option Addr} {sl6 : Array (Option Value)}
    (a6 : PySem.W.nsIn K mainGlobals F6.name = some (some (.ref f6))) (l6 : K.lookup f6 = some ⟨oc6, od6, .func (fnF F6 kV6 dc6 pm6 an6 cd6 ct6), sl6⟩) (c6 : PySem.W.codeIn K cd6 F6.qual = true) (k6 : PySem.W.keepIn K (.ref f6) = true)
    {oc7 kV7 dc7 pm7 cd7 ct7 : Value} {od7 an7 : Option Addr} {sl7 : Array (Option Value)}
    (a7 : PySem.W.nsIn K mainGlobals F7.name = some (some (.ref f7))) (l7 : K.lookup f7 = some ⟨oc7, od7, .func (fnF F7 kV7 dc7 pm7 an7 cd7 ct7), sl7⟩) (c7 : PySem.W.codeIn K cd7 F7.qual = true) (k7 : PySem.W.keepIn K (.ref f7) = true)
    {oc8 kV8 dc8 pm8 cd8 ct8 : Value} {od8 an8 : Option Addr} {sl8 : Array (Option Value)}
    (a8 : PySem.W.nsIn K mainGlobals F8.name = some (some (.ref f8))) (l8 : K.lookup f8 = some ⟨oc8, od8, .func (fnF F8 kV8 dc8 pm8 an8 cd8 ct8), sl8⟩) (c8 : PySem.W.codeIn K cd8 F8.qual = true) (k8 : PySem.W.keepIn K (.ref f8) = true)
    {oc9 kV9 dc9 pm9 cd9 ct9 : Value} {od9 an9 : Option Addr} {sl9 : Array (Option Value)}
    (a9 : PySem.W.nsIn K mainGlobals F9.name = some (some (.ref f9))) (l9 : K.lookup f9 = some ⟨oc9, od9, .func (fnF F9 kV9 dc9 pm9 an9 cd9 ct9), sl9⟩) (c9 : PySem.W.codeIn K cd9 F9.qual = true) (k9 : PySem.W.keepIn K (.ref f9) = true)
    {oc10 kV10 dc10 pm10 cd10 ct10 : Value} {od10 an10 : Option Addr} {sl10 : Array (Option Value)}
    (a10 : PySem.W.nsIn K mainGlobals F10.name = some (some (.ref f10))) (l10 : K.lookup f10 = some ⟨oc10, od10, .func (fnF F10 kV10 dc10 pm10 an10 cd10 ct10), sl10⟩) (c10 : PySem.W.codeIn K cd10 F10.qual = true) (k10 : PySem.W.keepIn K (.ref f10) = true)
    {oc11 kV11 dc11 pm11 cd11 ct11 : Value} {od11 an11 : Option Addr} {sl11 : Array (Option Value)}
    (a11 : PySem.W.nsIn K mainGlobals F11.name = some (some (.ref f11))) (l11 : K.lookup f11 = some ⟨oc11, od11, .func (fnF F11 kV11 dc11 pm11 an11 cd11 ct11), sl11⟩) (c11 : PySem.W.codeIn K cd11 F11.qual = true) (k11 : PySem.W.keepIn K (.ref f11) = true)
    {oc12 kV12 dc12 pm12 cd12 ct12 : Value} {od12 an12 : Option Addr} {sl12 : Array (Option Value)}
    (a12 : PySem.W.nsIn K mainGlobals F12.name = some (some (.ref f12))) (l12 : K.lookup f12 = some ⟨oc12, od12, .func (fnF F12 kV12 dc12 pm12 an12 cd12 ct12), sl12⟩) (c12 : PySem.W.codeIn K cd12 F12.qual = true) (k12 : PySem.W.keepIn K (.ref f12) = true)
    {oc13 kV13 dc13 pm13 cd13 ct13 : Value} {od13 an13 : Option Addr} {sl13 : Array (Option Value)}
    (a13 : PySem.W.nsIn K mainGlobals F13.name = some (some (.ref f13))) (l13 : K.lookup f13 = some ⟨oc13, od13, .func (fnF F13 kV13 dc13 pm13 an13 cd13 ct13), sl13⟩) (c13 : PySem.W.codeIn K cd13 F13.qual = true) (k13 : PySem.W.keepIn K (.ref f13) = true)
    {oc14 kV14 dc14 pm14 cd14 ct14 : Value} {od14 an14 : Option Addr} {sl14 : Array (Option Value)}
    (a14 : PySem.W.nsIn K mainGlobals F14.name = some (some (.ref f14))) (l14 : K.lookup f14 = some ⟨oc14, od14, .func (fnF F14 kV14 dc14 pm14 an14 cd14 ct14), sl14⟩) (c14 : PySem.W.codeIn K cd14 F14.qual = true) (k14 : PySem.W.keepIn K (.ref f14) = true)
    {oc15 kV15 dc15 pm15 cd15 ct15 : Value} {od15 an15 : Option Addr} {sl15 : Array (Option Value)}
    (a15 : PySem.W.nsIn K mainGlobals F15.name = some (some (.ref f15))) (l15 : K.lookup f15 = some ⟨oc15, od15, .func (fnF F15 kV15 dc15 pm15 an15 cd15 ct15), sl15⟩) (c15 : PySem.W.codeIn K cd15 F15.qual = true) (k15 : PySem.W.keepIn K (.ref f15) = true)
    {oc16 kV16 dc16 pm16 cd16 ct16 : Value} {od16 an16 : Option Addr} {sl16 : Array (Option Value)}
    (a16 : PySem.W.nsIn K mainGlobals F16.name = some (some (.ref f16))) (l16 : K.lookup f16 = some ⟨oc16, od16, .func (fnF F16 kV16 dc16 pm16 an16 cd16 ct16), sl16⟩) (c16 : PySem.W.codeIn K cd16 F16.qual = true) (k16 : PySem.W.keepIn K (.ref f16) = true)
    {oc17 kV17 dc17 pm17 cd17 ct17 : Value} {od17 an17 : Option Addr} {sl17 : Array (Option Value)}
    (a17 : PySem.W.nsIn K mainGlobals F17.name = some (some (.ref f17))) (l17 : K.lookup f17 = some ⟨oc17, od17, .func (fnF F17 kV17 dc17 pm17 an17 cd17 ct17), sl17⟩) (c17 : PySem.W.codeIn K cd17 F17.qual = true) (k17 : PySem.W.keepIn K (.ref f17) = true)
    {oc18 kV18 dc18 pm18 cd18 ct18 : Value} {od18 an18 : Option Addr} {sl18 : Array (Option Value)}
    (a18 : PySem.W.nsIn K mainGlobals F18.name = some (some (.ref f18))) (l18 : K.lookup f18 = some ⟨oc18, od18, .func (fnF F18 kV18 dc18 pm18 an18 cd18 ct18), sl18⟩) (c18 : PySem.W.codeIn K cd18 F18.qual = true) (k18 : PySem.W.keepIn K (.ref f18) = true)
    {oc19 kV19 dc19 pm19 cd19 ct19 : Value} {od19 an19 : Option Addr} {sl19 : Array (Option Value)}
    (a19 : PySem.W.nsIn K mainGlobals F19.name = some (some (.ref f19))) (l19 : K.lookup f19 = some ⟨oc19, od19, .func (fnF F19 kV19 dc19 pm19 an19 cd19 ct19), sl19⟩) (c19 : PySem.W.codeIn K cd19 F19.qual = true) (k19 : PySem.W.keepIn K (.ref f19) = true)
    {oc20 kV20 dc20 pm20 cd20 ct20 : Value} {od20 an20 : Option Addr} {sl20 : Array (Option Value)}
    (a20 : PySem.W.nsIn K mainGlobals F20.name = some (some (.ref f20))) (l20 : K.lookup f20 = some ⟨oc20, od20, .func (fnF F20 kV20 dc20 pm20 an20 cd20 ct20), sl20⟩) (c20 : PySem.W.codeIn K cd20 F20.qual = true) (k20 : PySem.W.keepIn K (.ref f20) = true)
    {oc21 kV21 dc21 pm21 cd21 ct21 : Value} {od21 an21 : Option Addr} {sl21 : Array (Option Value)}
    (a21 : PySem.W.nsIn K mainGlobals F21.name = some (some (.ref f21))) (l21 : K.lookup f21 = some ⟨oc21, od21, .func (fnF F21 kV21 dc21 pm21 an21 cd21 ct21), sl21⟩) (c21 : PySem.W.codeIn K cd21 F21.qual = true) (k21 : PySem.W.keepIn K (.ref f21) = true)
    (z0 : PySem.W.nsIn K mainGlobals "abs" = some none)
    (z1 : PySem.W.nsIn K mainGlobals "all" = some none)
    (z2 : PySem.W.nsIn K mainGlobals "any" = some none)
    (z3 : PySem.W.nsIn K mainGlobals "bool" = some none)
    (z4 : PySem.W.nsIn K mainGlobals "enumerate" = some none)
    (z5 : PySem.W.nsIn K mainGlobals "int" = some none)
    (z6 : PySem.W.nsIn K mainGlobals "isinstance" = some none)
    (z7 : PySem.W.nsIn K mainGlobals "len" = some none)
    (z8 : PySem.W.nsIn K mainGlobals "list" = some none)
    (z9 : PySem.W.nsIn K mainGlobals "range" = some none)
    (z10 : PySem.W.nsIn K mainGlobals "set" = some none)
    (z11 : PySem.W.nsIn K mainGlobals "str" = some none)
    (z12 : PySem.W.nsIn K mainGlobals "tuple" = some none)
    {C_BadLexicon : Addr} (ca_BadLexicon : PySem.W.nsIn K mainGlobals "BadLexicon" = some (some (.ref C_BadLexicon)))
    {C_BadWord : Addr} (ca_BadWord : PySem.W.nsIn K mainGlobals "BadWord" = some (some (.ref C_BadWord)))
    {C_DataError : Addr} (ca_DataError : PySem.W.nsIn K mainGlobals "DataError" = some (some (.ref C_DataError)))
    {C_FearError : Addr} (ca_FearError : PySem.W.nsIn K mainGlobals "FearError" = some (some (.ref C_FearError)))
    {nm_0 q_0 file_0 : Str} {N_0 fI_0 c_0 cc_0 : Addr} {bs_0 bm_0 sub_0 : List Value} {sn_0 : List Str} {ab_0 : Bool} {col_0 : Option Bool} {dd_0 od_0 an_0 cdd_0 cld_0 : Option Addr} {k0_0 k1_0 k2_0 k3_0 k5_0 : Option Value}
    {ccl_0 cl_0 oc_0 kV_0 dc_0 pm_0 ct_0 : Value} {vs_0 : Array Value} {ccs_0 csl_0 osl_0 : Array (Option Value)} {tf_0 : Nat} {c1_0 c2_0 : ClassData}
    (xl_0 : K.lookup C_BadLexicon = some (excClassObj nm_0 q_0 C_BadLexicon N_0 bs_0 bm_0 true sn_0 sub_0 ab_0 col_0 dd_0 k0_0 k1_0 k2_0 k3_0 k5_0 "ValueError.__new__")) (rv_0 : PySem.HandSPX.refsVE bm_0 = true)
    (sa_0 : PySem.W.findIn K (.ref C_BadLexicon) "__setattr__" = some (some (.builtin "object.__setattr__"))) (ex_0 : PySem.W.subIn K (.ref C_BadLexicon) (.type "BaseException") = some true) (ty_0 : PySem.W.typeIn K (.ref C_BadLexicon) = some (.type "type")) (kp_0 : PySem.W.keepIn K (.ref C_BadLexicon) = true)
    (ga_0 : PySem.W.findIn K (.ref C_BadLexicon) "__getattribute__" = some (some (.builtin "BaseException.__getattribute__"))) (gg_0 : PySem.W.findIn K (.ref C_BadLexicon) "__getattr__" = some none) (hd_0 : PySem.W.hasDictIn K C_BadLexicon = true)
    (nf_0_0 : PySem.W.findIn K (.ref C_BadLexicon) "at" = some none)
    (nf_0_1 : PySem.W.findIn K (.ref C_BadLexicon) "word" = some none)
    (ii_0 : PySem.W.findIn K (.ref C_BadLexicon) "__init__" = some (some (.ref fI_0))) (ti_0 : PySem.W.typeIn K (.ref fI_0) = some (.type "function"))
    (li_0 : K.lookup fI_0 = some ⟨oc_0, od_0, .func (PySem.W.fnX "__init__" "BadLexicon.__init__" (defArgs ini_0) (defBody ini_0) (defScope ini_0) [(("__class__" : Str), cc_0)] .none kV_0 dc_0 pm_0 an_0 (.ref c_0) ct_0), osl_0⟩) (ci_0 : PySem.W.codeIn K (.ref c_0) "BadLexicon.__init__" = true)
    (lc_0 : K.lookup c_0 = some ⟨ccl_0, cdd_0, .fields vs_0, ccs_0⟩) (cv_0 : vs_0[2]? = some (.str file_0 tf_0))
    (le_0 : K.lookup cc_0 = some ⟨cl_0, cld_0, .cell (some (.ref C_BadLexicon)), csl_0⟩)
    (mr_0 : PySem.W.mroIn K C_BadLexicon (.ref C_BadLexicon) = some true) (kc_0 : PySem.W.clsIn K C_BadLexicon = some c1_0) (kd_0 : PySem.W.clsIn K C_DataError = some c2_0) (mq_0 : (c1_0.mro.dropWhile (· != .ref C_BadLexicon)).drop 1 = c2_0.mro) (fd_0 : PySem.W.findIn K (.ref C_DataError) "__init__" = some (some (.builtin "ValueError.__init__"))) (sv_0 : PySem.W.subIn K (.ref C_BadLexicon) (.type "ValueError") = some true)
    {nm_1 q_1 file_1 : Str} {N_1 fI_1 c_1 cc_1 : Addr} {bs_1 bm_1 sub_1 : List Value} {sn_1 : List Str} {ab_1 : Bool} {col_1 : Option Bool} {dd_1 od_1 an_1 cdd_1 cld_1 : Option Addr} {k0_1 k1_1 k2_1 k3_1 k5_1 : Option Value}
    {ccl_1 cl_1 oc_1 kV_1 dc_1 pm_1 ct_1 : Value} {vs_1 : Array Value} {ccs_1 csl_1 osl_1 : Array (Option Value)} {tf_1 : Nat} {c1_1 c2_1 : ClassData}
    (xl_1 : K.lookup C_BadWord = some (excClassObj nm_1 q_1 C_BadWord N_1 bs_1 bm_1 true sn_1 sub_1 ab_1 col_1 dd_1 k0_1 k1_1 k2_1 k3_1 k5_1 "ValueError.__new__")) (rv_1 : PySem.HandSPX.refsVE bm_1 = true)
    (sa_1 : PySem.W.findIn K (.ref C_BadWord) "__setattr__" = some (some (.builtin "object.__setattr__"))) (ex_1 : PySem.W.subIn K (.ref C_BadWord) (.type "BaseException") = some true) (ty_1 : PySem.W.typeIn K (.ref C_BadWord) = some (.type "type")) (kp_1 : PySem.W.keepIn K (.ref C_BadWord) = true)
    (ga_1 : PySem.W.findIn K (.ref C_BadWord) "__getattribute__" = some (some (.builtin "BaseException.__getattribute__"))) (gg_1 : PySem.W.findIn K (.ref C_BadWord) "__getattr__" = some none) (hd_1 : PySem.W.hasDictIn K C_BadWord = true)
    (nf_1_0 : PySem.W.findIn K (.ref C_BadWord) "at" = some none)
    (ii_1 : PySem.W.findIn K (.ref C_BadWord) "__init__" = some (some (.ref fI_1))) (ti_1 : PySem.W.typeIn K (.ref fI_1) = some (.type "function"))
    (li_1 : K.lookup fI_1 = some ⟨oc_1, od_1, .func (PySem.W.fnX "__init__" "BadWord.__init__" (defArgs ini_1) (defBody ini_1) (defScope ini_1) [(("__class__" : Str), cc_1)] .none kV_1 dc_1 pm_1 an_1 (.ref c_1) ct_1), osl_1⟩) (ci_1 : PySem.W.codeIn K (.ref c_1) "BadWord.__init__" = true)
    (lc_1 : K.lookup c_1 = some ⟨ccl_1, cdd_1, .fields vs_1, ccs_1⟩) (cv_1 : vs_1[2]? = some (.str file_1 tf_1))
    (le_1 : K.lookup cc_1 = some ⟨cl_1, cld_1, .cell (some (.ref C_BadWord)), csl_1⟩)
    (mr_1 : PySem.W.mroIn K C_BadWord (.ref C_BadWord) = some true) (kc_1 : PySem.W.clsIn K C_BadWord = some c1_1) (kd_1 : PySem.W.clsIn K C_DataError = some c2_1) (mq_1 : (c1_1.mro.dropWhile (· != .ref C_BadWord)).drop 1 = c2_1.mro) (fd_1 : PySem.W.findIn K (.ref C_DataError) "__init__" = some (some (.builtin "ValueError.__init__"))) (sv_1 : PySem.W.subIn K (.ref C_BadWord) (.type "ValueError") = some true)
    (opq : PySem.W.nsIn K PySem.cStatics "thirdparty.any" = some none) (sup : PySem.W.nsIn K mainGlobals "super" = some none)
    (eb_BadLexicon : PySem.W.subIn K (.ref C_BadLexicon) (.type "BaseException") = some true) (ic_BadLexicon : PySem.W.isClsIn K C_BadLexicon = true) (td_BadLexicon : PySem.W.typeIn K (.ref C_BadLexicon) = some (.type "type"))
    (sb_BadLexicon_0 : PySem.W.subIn K (.ref C_BadLexicon) (.ref C_BadLexicon) = some true)
    (sb_BadLexicon_1 : PySem.W.subIn K (.ref C_BadWord) (.ref C_BadLexicon) = some false)
    (eb_BadWord : PySem.W.subIn K (.ref C_BadWord) (.type "BaseException") = some true) (ic_BadWord : PySem.W.isClsIn K C_BadWord = true) (td_BadWord : PySem.W.typeIn K (.ref C_BadWord) = some (.type "type"))
    (sb_BadWord_0 : PySem.W.subIn K (.ref C_BadLexicon) (.ref C_BadWord) = some false)
    (sb_BadWord_1 : PySem.W.subIn K (.ref C_BadWord) (.ref C_BadWord) = some true)
    (eb_FearError : PySem.W.subIn K (.ref C_FearError) (.type "BaseException") = some true) (ic_FearError : PySem.W.isClsIn K C_FearError = true) (td_FearError : PySem.W.typeIn K (.ref C_FearError) = some (.type "type"))
    (sb_FearError_0 : PySem.W.subIn K (.ref C_BadLexicon) (.ref C_FearError) = some true)
    (sb_FearError_1 : PySem.W.subIn K (.ref C_BadWord) (.ref C_FearError) = some true)
    {t_0 : Tok} (cn_0 : PySem.W.nsIn K mainGlobals "LETTERS" = some (some (.str "abcdefghijklmnopqrstuvwxyz" t_0)))
    {t_1 : Tok} (cn_1 : PySem.W.nsIn K mainGlobals "NOUNS_MOST" = some (some (.int 5 t_1)))
    {A_2 : Addr} {is_2 : Array Value} {n_2 : Nat} {sl_2 : Array (Option Value)} (cn_2 : PySem.W.nsIn K mainGlobals "NO_WORDS" = some (some (.ref A_2))) (cl_2 : K.lookup A_2 = some ⟨.type "tuple", none, .seq is_2 n_2, sl_2⟩) (cy_2 : Vals [(.str "all" : V), (.str "every" : V), (.str "each" : V), (.str "some" : V), (.str "a" : V), (.str "an" : V), (.str "no" : V), (.str "without" : V), (.str "are" : V), (.str "is" : V), (.str "by" : V), (.str "noun" : V), (.str "verb" : V), (.str "which" : V), (.str "ask" : V), (.str "why" : V), (.str "thing" : V), (.str "world" : V), (.str "showing" : V), (.str "book" : V), (.str "questions" : V)] is_2.toList) (cz_2 : is_2.size ≤ sizeLine)
    {t_3 : Tok} (cn_3 : PySem.W.nsIn K mainGlobals "VERBS_MOST" = some (some (.int 2 t_3)))
    {t_4 : Tok} (cn_4 : PySem.W.nsIn K mainGlobals "WORD_MOST" = some (some (.int 10 t_4)))
    (P : Program) (w : World) (cf_0 : ((P.main.file : Str) == file_0) = true) (cf_1 : ((P.main.file : Str) == file_1) = true) (tp : (P.main.scope.names.lookup ("super" : Str)).isSome = false) : (∀ x ∈ bl, mg x = none) ∧ CsOk P w K mg cs ∧ (∃ T, ∀ base, ExsOk P w K mg base (eoX T) cs T) ∧ (∀ (j : Nat) (G : Fd), fs[j]? = some G → ∃ f fd, FdOk K mg G f fd) ∧ ∃ fd, FdOk K mg F21 fa fd ∧ ∀ (s : Shared) (u : Value), BindsTo s fd ⟨[u], []⟩ [("script", u)] := by
  have e := hfa.symm.trans (PySem.W.mg_of X G a21)
  cases e
  have hb : ∀ x ∈ bl, mg x = none := List.forall_mem_cons.mpr ⟨PySem.W.mg_none_of X G z0, List.forall_mem_cons.mpr ⟨PySem.W.mg_none_of X G z1, List.forall_mem_cons.mpr ⟨PySem.W.mg_none_of X G z2, List.forall_mem_cons.mpr ⟨PySem.W.mg_none_of X G z3, List.forall_mem_cons.mpr ⟨PySem.W.mg_none_of X G z4, List.forall_mem_cons.mpr ⟨PySem.W.mg_none_of X G z5, List.forall_mem_cons.mpr ⟨PySem.W.mg_none_of X G z6, List.forall_mem_cons.mpr ⟨PySem.W.mg_none_of X G z7, List.forall_mem_cons.mpr ⟨PySem.W.mg_none_of X G z8, List.forall_mem_cons.mpr ⟨PySem.W.mg_none_of X G z9, List.forall_mem_cons.mpr ⟨PySem.W.mg_none_of X G z10, List.forall_mem_cons.mpr ⟨PySem.W.mg_none_of X G z11, List.forall_mem_cons.mpr ⟨PySem.W.mg_none_of X G z12, fun _ h => by cases h⟩⟩⟩⟩⟩⟩⟩⟩⟩⟩⟩⟩⟩
  have hcs : CsOk P w K mg cs := List.forall_mem_cons.mpr ⟨⟨_, .str "abcdefghijklmnopqrstuvwxyz", PySem.W.mg_of X G cn_0, ⟨_, rfl⟩, fun B ρ H => by simp only [Rel], rfl⟩, List.forall_mem_cons.mpr ⟨⟨_, .int 5, PySem.W.mg_of X G cn_1, ⟨_, rfl⟩, fun B ρ H => by simp only [Rel], rfl⟩, List.forall_mem_cons.mpr ⟨⟨_, .ref A_2, PySem.W.mg_of X G cn_2, rfl, fun B ρ H => by simp only [Rel]; exact ⟨A_2, [(.str "all" : V), (.str "every" : V), (.str "each" : V), (.str "some" : V), (.str "a" : V), (.str "an" : V), (.str "no" : V), (.str "without" : V), (.str "are" : V), (.str "is" : V), (.str "by" : V), (.str "noun" : V), (.str "verb" : V), (.str "which" : V), (.str "ask" : V), (.str "why" : V), (.str "thing" : V), (.str "world" : V), (.str "showing" : V), (.str "book" : V), (.str "questions" : V)], rfl, .inr ⟨_, _, _, cl_2, rfl, rfl, rfl, cz_2, cy_2⟩, by (show _ ≤ _); decide, Rels.cons (by simp only [Rel]) (Rels.cons (by simp only [Rel]) (Rels.cons (by simp only [Rel]) (Rels.cons (by simp only [Rel]) (Rels.cons (by simp only [Rel]) (Rels.cons (by simp only [Rel]) (Rels.cons (by simp only [Rel]) (Rels.cons (by simp only [Rel]) (Rels.cons (by simp only [Rel]) (Rels.cons (by simp only [Rel]) (Rels.cons (by simp only [Rel]) (Rels.cons (by simp only [Rel]) (Rels.cons (by simp only [Rel]) (Rels.cons (by simp only [Rel]) (Rels.cons (by simp only [Rel]) (Rels.cons (by simp only [Rel]) (Rels.cons (by simp only [Rel]) (Rels.cons (by simp only [Rel]) (Rels.cons (by simp only [Rel]) (Rels.cons (by simp only [Rel]) (Rels.cons (by simp only [Rel]) (Rels.nil)))))))))))))))))))))⟩, rfl⟩, List.forall_mem_cons.mpr ⟨⟨_, .int 2, PySem.W.mg_of X G cn_3, ⟨_, rfl⟩, fun B ρ H => by simp only [Rel], rfl⟩, List.forall_mem_cons.mpr ⟨⟨_, .int 10, PySem.W.mg_of X G cn_4, ⟨_, rfl⟩, fun B ρ H => by simp only [Rel], rfl⟩, fun _ h => by cases h⟩⟩⟩⟩⟩
  have hf : ∀ F ∈ fs, ∃ f fd, FdOk K mg F f fd := List.forall_mem_cons.mpr ⟨fd_mk X G bd0 kw0 a0 l0 c0 k0, List.forall_mem_cons.mpr ⟨fd_mk X G bd1 kw1 a1 l1 c1 k1, List.forall_mem_cons.mpr ⟨fd_mk X G bd2 kw2 a2 l2 c2 k2, List.forall_mem_cons.mpr ⟨fd_mk X G bd3 kw3 a3 l3 c3 k3, List.forall_mem_cons.mpr ⟨fd_mk X G bd4 kw4 a4 l4 c4 k4, List.forall_mem_cons.mpr ⟨fd_mk X G bd5 kw5 a5 l5 c5 k5, List.forall_mem_cons.mpr ⟨fd_mk X G bd6 kw6 a6 l6 c6 k6, List.forall_mem_cons.mpr ⟨fd_mk X G bd7 kw7 a7 l7 c7 k7, List.forall_mem_cons.mpr ⟨fd_mk X G bd8 kw8 a8 l8 c8 k8, List.forall_mem_cons.mpr ⟨fd_mk X G bd9 kw9 a9 l9 c9 k9, List.forall_mem_cons.mpr ⟨fd_mk X G bd10 kw10 a10 l10 c10 k10, List.forall_mem_cons.mpr ⟨fd_mk X G bd11 kw11 a11 l11 c11 k11, List.forall_mem_cons.mpr ⟨fd_mk X G bd12 kw12 a12 l12 c12 k12, List.forall_mem_cons.mpr ⟨fd_mk X G bd13 kw13 a13 l13 c13 k13, List.forall_mem_cons.mpr ⟨fd_mk X G bd14 kw14 a14 l14 c14 k14, List.forall_mem_cons.mpr ⟨fd_mk X G bd15 kw15 a15 l15 c15 k15, List.forall_mem_cons.mpr ⟨fd_mk X G bd16 kw16 a16 l16 c16 k16, List.forall_mem_cons.mpr ⟨fd_mk X G bd17 kw17 a17 l17 c17 k17, List.forall_mem_cons.mpr ⟨fd_mk X G bd18 kw18 a18 l18 c18 k18, List.forall_mem_cons.mpr ⟨fd_mk X G bd19 kw19 a19 l19 c19 k19, List.forall_mem_cons.mpr ⟨fd_mk X G bd20 kw20 a20 l20 c20 k20, List.forall_mem_cons.mpr ⟨fd_mk X G bd21 kw21 a21 l21 c21 k21, fun _ h => by cases h⟩⟩⟩⟩⟩⟩⟩⟩⟩⟩⟩⟩⟩⟩⟩⟩⟩⟩⟩⟩⟩⟩
  have hex : ∃ T, ∀ base, ExsOk P w K mg base (eoX T) cs T := by
    refine exs_mk [(C_BadLexicon, ["at", "word"]), (C_BadWord, ["at"])] (fun base i xi e => ?_) (fun p hp => ?_) (fun p hp => ?_)
    · match i, e with
      | 0, rfl => exact ⟨C_BadLexicon, rfl, xok_mk (st := ini_0) (qual := "BadLexicon.__init__") X G ck_0 tp (bi_0 _ _ _ _ _ _ _) ca_BadLexicon xl_0 rv_0 sa_0 ex_0 ty_0 kp_0 ga_0 gg_0 hd_0 (List.forall_mem_cons.mpr ⟨nf_0_0, List.forall_mem_cons.mpr ⟨nf_0_1, fun _ h => by cases h⟩⟩) ii_0 ti_0 li_0 ci_0 lc_0 cv_0 cf_0 le_0 mr_0 opq (along_of kc_0 kd_0 mq_0 fd_0) sv_0 sup⟩
      | 1, rfl => exact ⟨C_BadWord, rfl, xok_mk (st := ini_1) (qual := "BadWord.__init__") X G ck_1 tp (bi_1 _ _ _ _ _ _ _) ca_BadWord xl_1 rv_1 sa_1 ex_1 ty_1 kp_1 ga_1 gg_1 hd_1 (List.forall_mem_cons.mpr ⟨nf_1_0, fun _ h => by cases h⟩) ii_1 ti_1 li_1 ci_1 lc_1 cv_1 cf_1 le_1 mr_1 opq (along_of kc_1 kd_1 mq_1 fd_1) sv_1 sup⟩
      | n + 2, h => simp [cs] at h
    · have : ∀ p ∈ cs.h, ∃ Ch, mg p.1 = some Ch ∧ HdK K [(C_BadLexicon, ["at", "word"]), (C_BadWord, ["at"])] p.2 Ch := by
        exact List.forall_mem_cons.mpr ⟨⟨_, PySem.W.mg_of X G ca_BadLexicon, hdk_BadLexicon (exm_ofD eb_BadLexicon ic_BadLexicon td_BadLexicon sb_BadLexicon_0) (exm_ofD eb_BadLexicon ic_BadLexicon td_BadLexicon sb_BadLexicon_1)⟩, List.forall_mem_cons.mpr ⟨⟨_, PySem.W.mg_of X G ca_BadWord, hdk_BadWord (exm_ofD eb_BadWord ic_BadWord td_BadWord sb_BadWord_0) (exm_ofD eb_BadWord ic_BadWord td_BadWord sb_BadWord_1)⟩, List.forall_mem_cons.mpr ⟨⟨_, PySem.W.mg_of X G ca_FearError, hdk_FearError (exm_ofD eb_FearError ic_FearError td_FearError sb_FearError_0) (exm_ofD eb_FearError ic_FearError td_FearError sb_FearError_1)⟩, fun _ h => by cases h⟩⟩⟩
      exact this p hp
    · have : ∀ p ∈ cs.g, ∃ CD, mg p.1 = some (.ref CD) ∧ ∀ k ∈ p.2, ∀ C ns, ([(C_BadLexicon, ["at", "word"]), (C_BadWord, ["at"])] : List (Addr × List Str))[k]? = some (C, ns) → PySem.W.kitOne K (.ref C) (.ref CD) = some true := by
        exact fun _ h => by cases h
      exact this p hp
  exact ⟨hb, hcs, hex, fun j G hj => hf G (List.mem_of_getElem? hj), _, fd_ok X G bd21 kw21 a21 l21 c21 k21, fun s v => .of_eq rfl⟩
set_option maxHeartbeats 0 in
theorem ck : ∀ F ∈ fs, ckF fs bl cs F = true := List.all_eq_true.mp (by decide +kernel)
theorem walk {l : PySem.W.OpenLaw} {q : Program} {loose : List Str} {XP : (Str → Option Value) → Heap → Prop} {YP : World → Heap → Prop} {d : DefRec} {K : Params → PySem.W.Frag} (hn : l.most = some 63) (hdf : d.params.defaults = []) (hnm : d.name = "law")
    (hY : ∀ (w : World) (h : Heap), YP w h → (K w.params).In h)
    (hF : ∀ (w : World) (mg : Str → Option Value) (fa : Addr) (h : Heap), (K w.params).In h → h.Ns mainGlobals mg → mg "law" = some (.ref fa) →
      (∀ x ∈ bl, mg x = none) ∧ CsOk l.prog w (K w.params) mg cs ∧ (∃ T, ∀ base, ExsOk l.prog w (K w.params) mg base (eoX T) cs T) ∧ (∀ (j : Nat) (G : Fd), fs[j]? = some G → ∃ f fd, FdOk (K w.params) mg G f fd) ∧ ∃ fd, FdOk (K w.params) mg F21 fa fd ∧ ∀ (s : Shared) (u : Value), BindsTo s fd ⟨[u], []⟩ [("script", u)]) :
    PySem.W.WalkO q loose XP YP l.row.toRowW d [] (fun f vs => PySem.call f vs) :=
  run_law (k := 10) (i := 21) (F := F21) (x := "script") hn (by decide) hdf ⟨rfl, by decide, by decide⟩ hY rfl rfl ck (fun w mg fa h X G e => hF w mg fa h X G (hnm ▸ e)) fun ns hl => by
    obtain ⟨v, h, e, rfl⟩ := Wp_ok (law_ok hl)
    exact ⟨h, e⟩
end Z
open PySem PySem.W PyProof.Rows in
set_option maxRecDepth 100000 in
set_option maxHeartbeats 0 in
theorem PySem.Challenge.cw_allfearsome_k01_words_lexicons_holds : PySem.Challenge.rw_allfearsome_k01_words_lexicons.Holds := by
  w_on; o_law; k_head; (case hw => w_witness2)
  k_fill
  refine Z.walk (l := PySem.Challenge.rw_allfearsome_k01_words_lexicons) rfl rfl rfl (fun w h Y => PySem.W.kIn_of Y) ?F
  case F =>
    intro w mg fa h KX G hmg
    refine' Z.all_mk KX G hmg ?a0 ?l0 ?c0 ?k0 ?a1 ?l1 ?c1 ?k1 ?a2 ?l2 ?c2 ?k2 ?a3 ?l3 ?c3 ?k3 ?a4 ?l4 ?c4 ?k4 ?a5 ?l5 ?c5 ?k5 ?a6 ?l6 ?c6 ?k6 ?a7 ?l7 ?c7 ?k7 ?a8 ?l8 ?c8 ?k8 ?a9 ?l9 ?c9 ?k9 ?a10 ?l10 ?c10 ?k10 ?a11 ?l11 ?c11 ?k11 ?a12 ?l12 ?c12 ?k12 ?a13 ?l13 ?c13 ?k13 ?a14 ?l14 ?c14 ?k14 ?a15 ?l15 ?c15 ?k15 ?a16 ?l16 ?c16 ?k16 ?a17 ?l17 ?c17 ?k17 ?a18 ?l18 ?c18 ?k18 ?a19 ?l19 ?c19 ?k19 ?a20 ?l20 ?c20 ?k20 ?a21 ?l21 ?c21 ?k21 ?z0 ?z1 ?z2 ?z3 ?z4 ?z5 ?z6 ?z7 ?z8 ?z9 ?z10 ?z11 ?z12 ?ca_BadLexicon ?ca_BadWord ?ca_DataError ?ca_FearError ?xl_0 ?rv_0 ?sa_0 ?ex_0 ?ty_0 ?kp_0 ?ga_0 ?gg_0 ?hd_0 ?nf_0_0 ?nf_0_1 ?ii_0 ?ti_0 ?li_0 ?ci_0 ?lc_0 ?cv_0 ?le_0 ?mr_0 ?kc_0 ?kd_0 ?mq_0 ?fd_0 ?sv_0 ?xl_1 ?rv_1 ?sa_1 ?ex_1 ?ty_1 ?kp_1 ?ga_1 ?gg_1 ?hd_1 ?nf_1_0 ?ii_1 ?ti_1 ?li_1 ?ci_1 ?lc_1 ?cv_1 ?le_1 ?mr_1 ?kc_1 ?kd_1 ?mq_1 ?fd_1 ?sv_1 ?opq ?sup ?eb_BadLexicon ?ic_BadLexicon ?td_BadLexicon ?sb_BadLexicon_0 ?sb_BadLexicon_1 ?eb_BadWord ?ic_BadWord ?td_BadWord ?sb_BadWord_0 ?sb_BadWord_1 ?eb_FearError ?ic_FearError ?td_FearError ?sb_FearError_0 ?sb_FearError_1 ?cn_0 ?cn_1 ?cn_2 ?cl_2 ?cy_2 ?cz_2 ?cn_3 ?cn_4 _ w ?cf_0 ?cf_1 ?tp
    (case a0 => k_is)
    (case l0 => k_is)
    (case c0 => k_is)
    (case k0 => k_is)
    (case a1 => k_is)
    (case l1 => k_is)
    (case c1 => k_is)
    (case k1 => k_is)
    (case a2 => k_is)
    (case l2 => k_is)
    (case c2 => k_is)
    (case k2 => k_is)
    (case a3 => k_is)
    (case l3 => k_is)
    (case c3 => k_is)
    (case k3 => k_is)
    (case a4 => k_is)
    (case l4 => k_is)
    (case c4 => k_is)
    (case k4 => k_is)
    (case a5 => k_is)
    (case l5 => k_is)
    (case c5 => k_is)
    (case k5 => k_is)
    (case a6 => k_is)
    (case l6 => k_is)
    (case c6 => k_is)
    (case k6 => k_is)
    (case a7 => k_is)
    (case l7 => k_is)
    (case c7 => k_is)
    (case k7 => k_is)
    (case a8 => k_is)
    (case l8 => k_is)
    (case c8 => k_is)
    (case k8 => k_is)
    (case a9 => k_is)
    (case l9 => k_is)
    (case c9 => k_is)
    (case k9 => k_is)
    (case a10 => k_is)
    (case l10 => k_is)
    (case c10 => k_is)
    (case k10 => k_is)
    (case a11 => k_is)
    (case l11 => k_is)
    (case c11 => k_is)
    (case k11 => k_is)
    (case a12 => k_is)
    (case l12 => k_is)
    (case c12 => k_is)
    (case k12 => k_is)
    (case a13 => k_is)
    (case l13 => k_is)
    (case c13 => k_is)
    (case k13 => k_is)
    (case a14 => k_is)
    (case l14 => k_is)
    (case c14 => k_is)
    (case k14 => k_is)
    (case a15 => k_is)
    (case l15 => k_is)
    (case c15 => k_is)
    (case k15 => k_is)
    (case a16 => k_is)
    (case l16 => k_is)
    (case c16 => k_is)
    (case k16 => k_is)
    (case a17 => k_is)
    (case l17 => k_is)
    (case c17 => k_is)
    (case k17 => k_is)
    (case a18 => k_is)
    (case l18 => k_is)
    (case c18 => k_is)
    (case k18 => k_is)
    (case a19 => k_is)
    (case l19 => k_is)
    (case c19 => k_is)
    (case k19 => k_is)
    (case a20 => k_is)
    (case l20 => k_is)
    (case c20 => k_is)
    (case k20 => k_is)
    (case a21 => k_is)
    (case l21 => k_is)
    (case c21 => k_is)
    (case k21 => k_is)
    (case z0 => k_is)
    (case z1 => k_is)
    (case z2 => k_is)
    (case z3 => k_is)
    (case z4 => k_is)
    (case z5 => k_is)
    (case z6 => k_is)
    (case z7 => k_is)
    (case z8 => k_is)
    (case z9 => k_is)
    (case z10 => k_is)
    (case z11 => k_is)
    (case z12 => k_is)
    (case ca_BadLexicon => k_is)
    (case ca_BadWord => k_is)
    (case ca_DataError => k_is)
    (case ca_FearError => k_is)
    (case xl_0 => k_is)
    (case rv_0 => decide +kernel)
    (case sa_0 => k_is)
    (case ex_0 => k_is)
    (case ty_0 => k_is)
    (case kp_0 => k_is)
    (case ga_0 => k_is)
    (case gg_0 => k_is)
    (case hd_0 => k_is)
    (case nf_0_0 => k_is)
    (case nf_0_1 => k_is)
    (case ii_0 => k_is)
    (case ti_0 => k_is)
    (case li_0 => k_is)
    (case ci_0 => k_is)
    (case lc_0 => k_is)
    (case cv_0 => rfl)
    (case le_0 => k_is)
    (case mr_0 => k_is)
    (case kc_0 => k_is)
    (case kd_0 => k_is)
    (case mq_0 => rfl)
    (case fd_0 => k_is)
    (case sv_0 => k_is)
    (case xl_1 => k_is)
    (case rv_1 => decide +kernel)
    (case sa_1 => k_is)
    (case ex_1 => k_is)
    (case ty_1 => k_is)
    (case kp_1 => k_is)
    (case ga_1 => k_is)
    (case gg_1 => k_is)
    (case hd_1 => k_is)
    (case nf_1_0 => k_is)
    (case ii_1 => k_is)
    (case ti_1 => k_is)
    (case li_1 => k_is)
    (case ci_1 => k_is)
    (case lc_1 => k_is)
    (case cv_1 => rfl)
    (case le_1 => k_is)
    (case mr_1 => k_is)
    (case kc_1 => k_is)
    (case kd_1 => k_is)
    (case mq_1 => rfl)
    (case fd_1 => k_is)
    (case sv_1 => k_is)
    (case opq => k_is)
    (case sup => k_is)
    (case eb_BadLexicon => k_is)
    (case ic_BadLexicon => k_is)
    (case td_BadLexicon => k_is)
    (case sb_BadLexicon_0 => k_is)
    (case sb_BadLexicon_1 => k_is)
    (case eb_BadWord => k_is)
    (case ic_BadWord => k_is)
    (case td_BadWord => k_is)
    (case sb_BadWord_0 => k_is)
    (case sb_BadWord_1 => k_is)
    (case eb_FearError => k_is)
    (case ic_FearError => k_is)
    (case td_FearError => k_is)
    (case sb_FearError_0 => k_is)
    (case sb_FearError_1 => k_is)
    (case cn_0 => k_is)
    (case cn_1 => k_is)
    (case cn_2 => k_is)
    (case cl_2 => k_is)
    (case cy_2 => simp only [List.toList_toArray]; repeat (first | exact PySem.Paired.nil | refine PySem.Paired.cons ⟨_, rfl⟩ ?_))
    (case cz_2 => decide +kernel)
    (case cn_3 => k_is)
    (case cn_4 => k_is)
    (case cf_0 => first | rfl | decide +kernel)
    (case cf_1 => first | rfl | decide +kernel)
    (case tp => first | rfl | decide +kernel)
